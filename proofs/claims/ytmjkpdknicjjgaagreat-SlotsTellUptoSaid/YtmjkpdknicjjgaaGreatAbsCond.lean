/-
  What is to be shown for a run of the abstract machine, as one proposition that is computed from the code. No statement of a seat is proved here.
-/
import Derived.IntWalk
import Derived.Test.YtmjkpdknicjjgaaGreatAbsEnv
set_option linter.unusedVariables false
set_option linter.unusedSimpArgs false
set_option linter.unusedSectionVars false
set_option linter.unnecessarySimpa false
set_option linter.defProp false
namespace Go.Ab
section
abbrev eC:=Nat->AV
def cT(s:eC):Operand->Option AV
 | .tmp t=>some (s t)
 | .const v=>ofValue v
 | .func f=>some (.fn (.func f) [] [])
 | .global _=>none
def Co(c:Operand->Option AV):List Operand->Option (List AV)
 | []=>some []
 | o :: os=>match c o,Co c os with
  | some x,some xs=>some (x :: xs)
  | _,_=>none
def CU(c:Operand->Option AV):List (Nat × Operand)->Option (List (Nat × AV))
 | []=>some []
 | (i,o) :: os=>match c o,CU c os with
  | some x,some xs=>some ((i,x) :: xs)
  | _,_=>none
def No(c:Operand->Option AV):Option Operand->Option (Option Int)
 | none=>some none
 | some o=>match (c o).bind uo with
  | some n=>some (some n)
  | none=>none
def adG(s:eC)(d:Nat)(v:AV):eC:=λi=>cond (Nat.beq i d) v (s i)
def eM(tm:List AV)(s:eC):Prop :=∀i,df tm i=s i
def wi{tm:List AV}{s:eC}(h:eM tm s):aP tm=cT s:=by
 funext o;cases o<;>simp[aP,cT,h _]
def DO(c:Operand->Option AV)(l:List Operand):l.mapM c=Co c l:=by
 induction l with| nil=>rfl| cons o l d=>simp only[nP,d,Co,sP,tV];cases c o<;>cases Co c l<;>rfl
def ET{tm:List AV}{s:eC}(h:eM tm s)(l:List (Nat × Operand)):ia tm l=CU (cT s) l:=by
 induction l with| nil=>rfl| cons o l c=>obtain⟨i,o⟩:=o;unfold ia at c ⊢;rw[nP,c];simp only[CU,sP,tV,wi h];cases cT s o<;>cases CU (cT s) l<;>rfl
def LB{tm:List AV}{s:eC}(h:eM tm s)(o:Option Operand):mJ tm o=No (cT s) o:=by
 cases o with| none=>rfl| some o=>simp only[mJ,No,wi h];rfl
def eM.set{tm:List AV}{s:eC}(h:eM tm s)(d:Nat)(v:AV):eM (CP tm d v) (adG s d v):=by
 intro i;rw[ti];unfold adG;split;·rename_i e;subst e;simp
 rename_i e;rw[show Nat.beq i d=false from by cases c:Nat.beq i d with | false=>rfl | true=>exact(e (kT c)).elim];exact h i
def ue(c a b:Option AV):jx:=
 match c.bind E9 with
 | some true=>iL a
 | some false=>iL b
 | none=>none
def lY(H:aa)(r:Ref)(q:jx):cR:=
 match q with
 | some (v,bs)=>some (v,keyed r 0 bs H)
 | none=>none
def EU(c:Bool)(a b:cR):cR:=
 match a with
 | some x=>some x
 | none=>cond c b none
def bm(E:Env)(c:Bool)(pc:FuncId->List AV->Option AV)(tc:uY->List AV->aa->cR)(H:aa)(r:Ref)(f:Option AV)(args:List AV):cR:=
 EU c (lY H r (k9 E pc H.get r f args)) (nn E pc tc H r f args)
def D2(E:Env)(c:Bool)(pc:FuncId->List AV->Option AV)(tc:uY->List AV->aa->cR)(H:aa)(r:Ref)(f:Option AV)(args:List AV):cR:=
 EU c (lY H r ((k9 E pc H.get r f args).map λp=>(p.1,Qi true p.2))) (sS true E.sm H (nn E pc tc H r f args))
def dm(P:Program)(c:Bool)(H:aa)(r:Ref)(t t':Option TypeId)(s x:AV):cR:=
 EU c (lY H r (eG P H.get r t t' s x)) (j9 P H t t' s x)
def lb(P:Program)(u d:Bool)(H:aa)(r:Ref)(t:TypeId)(n:Nat)(c:Option (List (Nat × AV))):cR:=
 EU d (lY H r (gx P u H.get r t n c)) (jV P H r t n c)
def tp(E:Env)(pc:FuncId->List AV->Option AV)(tc:uY->List AV->aa->cR)(dep:Nat)(u d:Bool)(s:eC)(H:aa)(r:Ref)(o:Oper):jx ⊕ cR:=
 match o.op with
 | .move x | .assign x => .inl (iL (cT s x))
 | .pick c a b => .inl (ue (cT s c) (cT s a) (cT s b))
 | .alloc e => .inr (lY H r (vX E.P r e))
 | .box e x => .inr (lY H r (Lx E.P r e (cT s x)))
 | .build t ps => .inl (mI E.P t (CU (cT s) ps.toList))
 | .buildSlice t n ps => .inr (lb E.P (u && !E.strict o) d H r t n (CU (cT s) ps.toList))
 | .load t a => .inl (ow E.P H.get t (cT s a))
 | .store t a x => .inr (cond d (jy E.P H t (cT s a) (cT s x)) none)
 | .nilCheck x => .inl (Nd (cT s x))
 | .binOp op t xo yo _ => .inl (bC E.P op t xo yo (cT s xo) (cT s yo))
 | .unOp op _ x => .inl (Zl E.P op (cT s x))
 | .convert src dst x=>match dD E.P dst with
  | true => .inr (lY H r (bY E.P H.get r src dst (cT s x)))
  | false => .inl (bY E.P H.get r src dst (cT s x))
 | .makeInterface t x => .inl (zI E.P t (cT s x))
 | .makeFunc f first captured => .inl (Ai f (Co (cT s) first.toList) (Co (cT s) captured.toList))
 | .makeSlice t l c => .inr (lY H r (yL E.P r t (cT s l) (cT s c)))
 | .slice t x lo hi h=>match E.wide o && !u with
  | true => .inl (lW E.P H.get t (cT s x) (No (cT s) lo) (No (cT s) hi) (No (cT s) h))
  | false => .inl (cr E.P H.get t (cT s x) (No (cT s) lo) (No (cT s) hi) (No (cT s) h))
 | .fieldAddr t x f => .inl (iM E.P t (cT s x) f)
 | .field t x f => .inl (tn E.P t (cT s x) f)
 | .indexAddr t x ix => .inl (bH E.P H.get t (cT s x) (cT s ix))
 | .index t x ix => .inl (xD E.P t (cT s x) (cT s ix))
 | .typeAssert x _ g ok => .inl (BD E.P (cT s x) g ok)
 | .extract x i => .inl (ud (cT s x) i)
 | .call c=>
  match Co (cT s) c.args.toList with
  | none => .inl none
  | some args=>
   match c.callee with
   | .value f=>(match Fz E.rR u f with
    | some t => .inl (Ig E.P H.get t args)
    | none=>(match E.gR o with
     | true => .inr (D2 E d pc tc H r (cT s f) args)
     | false => .inr (bm E d pc tc H r (cT s f) args)))
   | .invoke _ _ => .inl none
   | .builtin b=>match b,args with
    | .append,[a,x] => .inr (dm E.P d H r c.argTypes[0]? c.argTypes[1]? a x)
    | .copy,[dst,x]=>(match E.wide o with
     | true => .inr (cond d (vJ E.P H c.argTypes[0]? dst x) none)
     | false => .inr (cond d (AH E.P H c.argTypes[0]? dst x) none))
    | b,args => .inl (cb E.P (u&&(E.strict o || !(match c.args.toList with | [.tmp _]=>true | _=>false))) H.get r b c.argTypes args)
 | .makeMap _ none => .inr (lY H r (some (.mp r,[pP []])))
 | .lookup t x k ok => .inl (o4 E.P H.get t (cT s x) (cT s k) ok)
 | .mapUpdate t m k x => .inr (cond d (jz E.P H t (cT s m) (cT s k) (cT s x)) none)
 | .insert t m k x => .inr (cond d (jz E.P H t (cT s m) (cT s k) (cT s x)) none)
 | .mapEntry t m k => .inr (cond d (qR E.P H t (cT s m) (cT s k)) none)
 | .entryStore _ m n x => .inr (cond d (lR H (cT s m) (cT s n) (cT s x)) none)
 | .makeChan t n => .inr (cond d (Bq E.P H r t (cT s n)) none)
 | .send c x => .inr (cond d (G9 H (cT s c) (cT s x)) none)
 | .recv t c ok => .inr (cond d (JW E.P H t (cT s c) ok) none)
 | _ => .inl none
def oR(E:Env)(pc:FuncId->List AV->Option AV)(tc:uY->List AV->aa->cR)(dep:Nat)(u:Bool)(tm:List AV)(H:aa)(o:Oper):cR:=
 match cQ E pc u H.get tm ⟨dep,o.dst.getD 0,H.gen dep (o.dst.getD 0),0⟩ o with
 | some (x,bs)=>some (x,keyed ⟨dep,o.dst.getD 0,H.gen dep (o.dst.getD 0),0⟩ 0 bs H)
 | none=>if u && !jv E o then none else evalW E pc tc H tm ⟨dep,o.dst.getD 0,H.gen dep (o.dst.getD 0),0⟩ o
def Xc(E:Env)(pc:FuncId->List AV->Option AV)(tc:uY->List AV->aa->cR)(nt dep:Nat)(u:Bool)(ops:Array Oper)(o:Oper)(st:St) :
 evalOp E pc tc nt dep u ops o st=(match wanted ops st.tm o with
  | none=>none
  | some false=>(dx nt st.tm o.dst AV.undef).map λtm => { st with tm}
  | some true=>match oR E pc tc dep u st.tm st.hp o with
   | some (x,H)=>(dx nt st.tm o.dst x).map λtm=>⟨tm,H⟩
   | none=>none):=by
 unfold evalOp oR;cases hw:wanted ops st.tm o with
 | none=>rfl
 | some b=>
 cases b with| false=>rfl| true=>
  cases cQ E pc u st.hp.get st.tm ⟨dep,o.dst.getD 0,st.hp.gen dep (o.dst.getD 0),0⟩ o with
  | some p=>rfl
  | none=>
   dsimp only;split;·rfl
   rfl
def Xd{E:Env}{pc:FuncId->List AV->Option AV}{tc:uY->List AV->aa->cR}{dep:Nat}{u:Bool}{tm:List AV}{H:aa}{o:Oper}{v:AV}
 (h:cQ E pc u H.get tm ⟨dep,o.dst.getD 0,H.gen dep (o.dst.getD 0),0⟩ o=some (v,[])):oR E pc tc dep u tm H o=some (v,H):=by
 unfold oR;rw[h];rfl
def N2{E:Env}{pc:FuncId->List AV->Option AV}{tc:uY->List AV->aa->cR}{dep:Nat}{u:Bool}{tm:List AV}{H H':aa}{o:Oper}{v:AV}{q:jx}
 (h:cQ E pc u H.get tm ⟨dep,o.dst.getD 0,H.gen dep (o.dst.getD 0),0⟩ o=q) (c:lY H ⟨dep,o.dst.getD 0,H.gen dep (o.dst.getD 0),0⟩ q=some (v,H')):oR E pc tc dep u tm H o=some (v,H'):=by
 unfold oR;rw[h];unfold lY at c;split at c;·exact c
 cases c
def ma{E:Env}{pc:FuncId->List AV->Option AV}{tc:uY->List AV->aa->cR}{dep:Nat}{u:Bool}{tm:List AV}{H H':aa}{o:Oper}{v:AV}{q:jx}{w:cR}
 (h:cQ E pc u H.get tm ⟨dep,o.dst.getD 0,H.gen dep (o.dst.getD 0),0⟩ o=q) (d:evalW E pc tc H tm ⟨dep,o.dst.getD 0,H.gen dep (o.dst.getD 0),0⟩ o=w)
 (c:EU (!(u && !jv E o)) (lY H ⟨dep,o.dst.getD 0,H.gen dep (o.dst.getD 0),0⟩ q) w=some (v,H')):oR E pc tc dep u tm H o=some (v,H'):=by
 unfold oR;rw[h];cases q with
 | some p=>simpa [EU,lY] using c
 | none=>
  rw[d];cases hd:(u && !jv E o) with
  | true=>rw[hd]at c;simp[EU,lY]at c
  | false=>rw[hd]at c;simpa [EU,lY] using c
section
variable{E:Env}{pc:FuncId->List AV->Option AV}{tc:uY->List AV->aa->cR}{dep:Nat}{u:Bool}{tm:List AV}{s:eC}{H:aa}{o:Oper}
def Wm(d:eM tm s){q:jx}{v:AV}
 (h:tp E pc tc dep u (!(u && !jv E o)) s H ⟨dep,o.dst.getD 0,H.gen dep (o.dst.getD 0),0⟩ o = .inl q) (l:q=some (v,[])):oR E pc tc dep u tm H o=some (v,H):=by
 subst l;refine Xd ?_;have e:=wi d;unfold tp at h;unfold cQ;split at h<;>rename_i j<;>simp only[j];all_goals try (simp only[AE,reduceCtorEq]at h)
 all_goals try (rw[<-h];simp only[e,ue,Ie,ET d,LB d,DO];done)
 ·rw[<-h];unfold Ie ue;rw[e];rfl
 ·split at h;·cases h
  simp only[AE]at h;rw[<-h,e]
 ·cases g:(E.wide o && !u) with| true=>rw[g]at h;simp only[AE]at h;rw[<-h];simp only[iQp,e,LB d]| false=>rw[g]at h;simp only[AE]at h;rw[<-h];simp only[iQt,e,LB d]
 rw[DO,e];split at h;·cases h
 rename_i args c;rw[c];dsimp only;split at h
 ·rename_i f i;rw[i];dsimp only;split at h;·rename_i t n;simp only[AE]at h;simp only[n];exact h
  split at h<;>cases h
 ·cases h
 rename_i b m;rw[m];dsimp only;split at h;·cases h
 ·split at h<;>cases h
 simp only[AE]at h;exact h
def Wl(p:eM tm s){w:cR}{v:AV}{H':aa}
 (h:tp E pc tc dep u (!(u && !jv E o)) s H ⟨dep,o.dst.getD 0,H.gen dep (o.dst.getD 0),0⟩ o = .inr w) (z:w=some (v,H')):oR E pc tc dep u tm H o=some (v,H'):=by
 subst z;have e:=wi p;unfold tp at h;split at h<;>rename_i c;all_goals try (simp only[reduceCtorEq]at h;done)
 all_goals try (simp only[zf]at h)
 all_goals try (refine N2 (by unfold cQ;simp only[c,e]) h;done)
 ·rw[<-ET p]at h;exact ma (q:=gx _ _ _ _ _ _ _) (w:=jV _ _ _ _ _ _) (by unfold cQ;simp only[c]) (by unfold evalW;simp only[c]) h
 ·rw[<-e]at h;exact ma (q:=none) (w:=jy _ _ _ _ _) (by unfold cQ;simp only[c]) (by unfold evalW;simp only[c]) h
 ·split at h;·simp only[zf]at h;refine N2 (by unfold cQ;simp only[c,e]) h
  cases h
 ·split at h<;>cases h
 ·split at h;·cases h
  rename_i args i;have g:=i;rw[<-DO,<-e]at g;split at h
  ·rename_i f n;split at h;·cases h
   rename_i m;split at h;·rename_i d;simp only[zf]at h;rw[<-e]at h;exact ma (q:=(k9 _ _ _ _ _ _).map _) (w:=sS true _ _ (nn _ _ _ _ _ _ _)) (by unfold cQ;simp only[c,g,n,m,d]) (by unfold evalW;simp only[c,g,n,d]) h
   rename_i d;simp only[zf]at h;rw[<-e]at h;exact ma (q:=k9 _ _ _ _ _ _) (w:=nn _ _ _ _ _ _ _) (by unfold cQ;simp only[c,g,n,m,d,Qi];cases k9 E pc H.get _ (aP tm f) args<;>rfl) (by unfold evalW;simp only[c,g,n,d];rfl) h
  ·cases h
  rename_i b l;split at h;·simp only[zf]at h;exact ma (q:=eG _ _ _ _ _ _ _) (w:=j9 _ _ _ _ _ _) (by unfold cQ;simp only[c,g,l];rfl) (by unfold evalW;simp only[c,g,l]) h
  ·split at h;·rename_i j;simp only[zf]at h;exact ma (q:=none) (w:=vJ _ _ _ _ _) (by unfold cQ;simp only[c,g,l];rfl) (by unfold evalW;simp only[c,g,l,j,iQp]) h
   rename_i j;simp only[zf]at h;exact ma (q:=none) (w:=AH _ _ _ _ _) (by unfold cQ;simp only[c,g,l];rfl) (by unfold evalW;simp only[c,g,l,j,iQt]) h
  cases h
 ·rw[<-e]at h;exact ma (q:=none) (w:=jz _ _ _ _ _ _) (by unfold cQ;simp only[c]) (by unfold evalW;simp only[c]) h
 ·rw[<-e]at h;exact ma (q:=none) (w:=jz _ _ _ _ _ _) (by unfold cQ;simp only[c]) (by unfold evalW;simp only[c]) h
 ·rw[<-e]at h;exact ma (q:=none) (w:=qR _ _ _ _ _) (by unfold cQ;simp only[c]) (by unfold evalW;simp only[c]) h
 ·rw[<-e]at h;exact ma (q:=none) (w:=lR _ _ _ _) (by unfold cQ;simp only[c]) (by unfold evalW;simp only[c]) h
 ·rw[<-e]at h;exact ma (q:=none) (w:=Bq _ _ _ _ _) (by unfold cQ;simp only[c]) (by unfold evalW;simp only[c]) h
 ·rw[<-e]at h;exact ma (q:=none) (w:=G9 _ _ _) (by unfold cQ;simp only[c]) (by unfold evalW;simp only[c]) h
 rw[<-e]at h;exact ma (q:=none) (w:=JW _ _ _ _ _) (by unfold cQ;simp only[c]) (by unfold evalW;simp only[c]) h
end
def D0(E:Env)(u:Bool)(s:eC)(H:aa)(r:Ref)(o:Oper):Option cR:=
 if u || !E.deep o then none else
 match o.op with
 | .buildSlice t n ps=>some (De E.P H r t n (CU (cT s) ps.toList))
 | .call c=>(match c.callee with
  | .builtin .append=>some (match Co (cT s) c.args.toList with
   | some [a,x]=>Q6 E.P H r c.argTypes[0]? c.argTypes[1]? a x
   | _=>none)
  | _=>none)
 | _=>none
def N9{E:Env}{u:Bool}{tm:List AV}{s:eC}{H:aa}{r:Ref}{o:Oper}(d:eM tm s):FK E u H tm r o=D0 E u s H r o:=by
 unfold FK D0;split;·rfl
 generalize o.op=op;cases op;case buildSlice t n ps=>dsimp only;rw[ET d]
 case call c=>
  dsimp only;generalize c.callee=ce;cases ce with
  | builtin b=>
   cases b;case append=>
    dsimp only;rw[<-wi d,<-DO];generalize c.args.toList.mapM (aP tm)=l;match l with
    | none=>rfl
    | some []=>rfl
    | some [_]=>rfl
    | some [_,_]=>rfl
    | some (_ :: _ :: _ :: _)=>rfl
   all_goals rfl
  | _=>rfl
 all_goals rfl
def yO(E:Env)(pc:FuncId->List AV->Option AV)(tc:uY->List AV->aa->cR)(dep:Nat)(u c:Bool)(s:eC)(H:aa)(r:Ref)(o:Oper):jx ⊕ cR:=
 match D0 E u s H r o with
 | some w => .inr w
 | none=>tp E pc tc dep u c s H r o
def yT(E:Env)(pc:FuncId->List AV->Option AV)(tc:uY->List AV->aa->cR)(dep:Nat)(u:Bool)(tm:List AV)(H:aa)(o:Oper):cR:=
 match FK E u H tm ⟨dep,o.dst.getD 0,H.gen dep (o.dst.getD 0),0⟩ o with
 | some w=>w
 | none=>oR E pc tc dep u tm H o
def LP(E:Env)(pc:FuncId->List AV->Option AV)(tc:uY->List AV->aa->cR)(nt dep:Nat)(u:Bool)(ops:Array Oper)(o:Oper)(st:St) :
 Am E pc tc nt dep u ops o st=(match wanted ops st.tm o with
  | none=>none
  | some false=>(dx nt st.tm o.dst AV.undef).map λtm => { st with tm}
  | some true=>match yT E pc tc dep u st.tm st.hp o with
   | some (x,H)=>(dx nt st.tm o.dst x).map λtm=>⟨tm,H⟩
   | none=>none):=by
 unfold Am yT;cases FK E u st.hp st.tm ⟨dep,o.dst.getD 0,st.hp.gen dep (o.dst.getD 0),0⟩ o with
 | none=>exact Xc E pc tc nt dep u ops o st
 | some w=>rfl
section
variable{E:Env}{pc:FuncId->List AV->Option AV}{tc:uY->List AV->aa->cR}{dep:Nat}{u:Bool}{tm:List AV}{s:eC}{H:aa}{o:Oper}
def Zz(c:eM tm s){q:jx}{v:AV}
 (h:yO E pc tc dep u (!(u && !jv E o)) s H ⟨dep,o.dst.getD 0,H.gen dep (o.dst.getD 0),0⟩ o = .inl q) (d:q=some (v,[])):yT E pc tc dep u tm H o=some (v,H):=by
 unfold yO at h;unfold yT;rw[N9 c];cases hd:D0 E u s H ⟨dep,o.dst.getD 0,H.gen dep (o.dst.getD 0),0⟩ o with
 | some w=>rw[hd]at h;cases h
 | none=>rw[hd]at h;exact Wm c h d
def Zy(d:eM tm s){w:cR}{v:AV}{H':aa}
 (h:yO E pc tc dep u (!(u && !jv E o)) s H ⟨dep,o.dst.getD 0,H.gen dep (o.dst.getD 0),0⟩ o = .inr w) (c:w=some (v,H')):yT E pc tc dep u tm H o=some (v,H'):=by
 unfold yO at h;unfold yT;rw[N9 d];cases hd:D0 E u s H ⟨dep,o.dst.getD 0,H.gen dep (o.dst.getD 0),0⟩ o with
 | some w'=>rw[hd]at h;cases h;exact c
 | none=>rw[hd]at h;exact Wl d h c
end
open Classical in
noncomputable def ar(E:Env)(f:FuncId)(args:List AV):Option AV:=
 if h : ∃y n,∀m,n<=m->dv E (cD E m) f args=some y then some h.choose else none
def xg{E:Env}{f:FuncId}{args:List AV}{y:AV}:ar E f args=some y ↔ ∃n,∀m,n<=m->dv E (cD E m) f args=some y:=by
 unfold ar;constructor
 ·intro h;split at h;·rename_i d;simp only[ef]at h;rw[<-h];exact d.choose_spec
  cases h
 intro h;rw[dif_pos ⟨y,h⟩];obtain⟨n,g⟩:=h;have d : ∃y n,∀m,n<=m->dv E (cD E m) f args=some y:=⟨y,n,g⟩;obtain⟨e,c⟩:=d.choose_spec;have i:=g (max n e) (Nat.le_max_left ..);have j:=c (max n e) (Nat.le_max_right ..);exact j.symm.trans i
open Classical in
noncomputable def dg(E:Env)(dep:Nat)(f:uY)(args:List AV)(H:aa):cR:=
 if h : ∃y n,∀m,n<=m->eF E (cD E m) dep f args H=some y then some h.choose else none
def qB{E:Env}{dep:Nat}{f:uY}{args:List AV}{H:aa}{y:AV × aa}:dg E dep f args H=some y ↔ ∃n,∀m,n<=m->eF E (cD E m) dep f args H=some y:=by
 unfold dg;constructor
 ·intro h;split at h;·rename_i d;simp only[ef]at h;rw[<-h];exact d.choose_spec
  cases h
 intro h;rw[dif_pos ⟨y,h⟩];obtain⟨n,g⟩:=h;have d : ∃y n,∀m,n<=m->eF E (cD E m) dep f args H=some y:=⟨y,n,g⟩;obtain⟨e,c⟩:=d.choose_spec;have i:=g (max n e) (Nat.le_max_left ..);have j:=c (max n e) (Nat.le_max_right ..);exact j.symm.trans i
def Om{E:Env}{d:Bool}{dep:Nat}{H H':aa}{r:Ref}{f:Option AV}{args:List AV}{v:AV}(h:bm E d (ar E) (dg E dep) H r f args=some (v,H')) :
 ∃n,∀m,n<=m->bm E d (dv E (cD E m)) (eF E (cD E m) dep) H r f args=some (v,H'):=by
 unfold bm at h ⊢;by_cases j : ∃g first captured,f=some (.fn (.func g) first captured)
 ·obtain⟨g,first,captured,rfl⟩:=j;by_cases i:E.mode g=2
  ·simp only[k9,nn,if_pos i,lY,EU]at h ⊢;cases d with
   | true=>simp only[iQp]at h ⊢;obtain⟨n,e⟩:=qB.1 h;exact⟨n,e⟩
   | false=>simp at h
  simp only[k9,nn,if_neg i]at h ⊢;cases w:(first++args++captured).mapM (view H.get depth) with
  | none=>rw[w]at h;simp[lY,EU]at h
  | some xs=>
   rw[w]at h;dsimp only at h ⊢;cases c:ar E g xs with
   | none=>rw[c]at h;simp[lY,EU]at h
   | some y=>rw[c]at h;obtain⟨n,e⟩:=xg.1 c;refine⟨n,λm p=>?_⟩;rw[e m p];exact h
 have l : ∀pc,k9 E pc H.get r f args=none:=by
  intro pc;unfold k9;split;·exact(j ⟨_,_,_,rfl⟩).elim
  rfl
 by_cases c : ∃q,f=some (.yld q)
 ·obtain⟨q,rfl⟩:=c;rw[l]at h;cases d with
  | false=>simp[lY,EU]at h
  | true=>have z:dg E dep (.yld q) args H=some (v,H'):=h;obtain⟨n,e⟩:=qB.1 z;refine⟨n,λm p=>?_⟩;rw[l];exact e m p
 have i : ∀pc tc,nn E pc tc H r f args=none:=by
  intro pc tc;unfold nn;split;·exact(j ⟨_,_,_,rfl⟩).elim
  ·exact(c ⟨_,rfl⟩).elim
  rfl
 rw[l,i]at h;cases d<;>simp[lY,EU]at h
def Ha{sm:Oz}{H H':aa}{x:cR}{v:AV}(h:sS true sm H x=some (v,H')) : ∃c,x=some (v,c)/\H'=H/\flat depth v=true/\(IH H c||sm.f H c)=true:=by
 cases x with| none=>simp[sS]at h| some p=>
  obtain⟨y,c⟩:=p;unfold sS at h;simp only at h;split at h;·rename_i d;cases h;rw[bo]at d;exact⟨c,rfl,rfl,d.1,d.2⟩
  cases h
def L0{E:Env}{d:Bool}{dep:Nat}{H H':aa}{r:Ref}{f:Option AV}{args:List AV}{v:AV}(h:D2 E d (ar E) (dg E dep) H r f args=some (v,H')) :
 ∃n,∀m,n<=m->D2 E d (dv E (cD E m)) (eF E (cD E m) dep) H r f args=some (v,H'):=by
 unfold D2 at h ⊢;by_cases p : ∃j first captured,f=some (.fn (.func j) first captured)
 ·obtain⟨j,first,captured,rfl⟩:=p;by_cases l:E.mode j=2
  ·simp only[k9,nn,if_pos l,lY,EU,AG]at h ⊢;cases d with
   | true=>simp only[iQp]at h ⊢;obtain⟨H1,g,D,C,B⟩:=Ha h;obtain⟨n,e⟩:=qB.1 g;refine⟨n,λm i=>?_⟩;rw[e m i];rw[g]at h;exact h
   | false=>simp at h
  simp only[k9,nn,if_neg l]at h ⊢;cases A:(first++args++captured).mapM (view H.get depth) with
  | none=>rw[A]at h;simp[lY,EU,sS]at h
  | some xs=>
   rw[A]at h;dsimp only at h ⊢;cases c:ar E j xs with
   | none=>rw[c]at h;simp[lY,EU,sS]at h
   | some y=>rw[c]at h;obtain⟨n,e⟩:=xg.1 c;refine⟨n,λm i=>?_⟩;rw[e m i];exact h
 have z : ∀pc,k9 E pc H.get r f args=none:=by
  intro pc;unfold k9;split;·exact(p ⟨_,_,_,rfl⟩).elim
  rfl
 by_cases c : ∃q,f=some (.yld q)
 ·obtain⟨q,rfl⟩:=c;rw[z]at h;cases d with
  | false=>simp[lY,EU]at h
  | true=>have w:sS true E.sm H (dg E dep (.yld q) args H)=some (v,H'):=h;obtain⟨H1,g,_⟩:=Ha w;obtain⟨n,e⟩:=qB.1 g;refine⟨n,λm i=>?_⟩;rw[z];show sS true E.sm H (eF E (cD E m) dep (.yld q) args H)=_;rw[e m i];rw[g]at w;exact w
 have l : ∀pc tc,nn E pc tc H r f args=none:=by
  intro pc tc;unfold nn;split;·exact(p ⟨_,_,_,rfl⟩).elim
  ·exact(c ⟨_,rfl⟩).elim
  rfl
 rw[z,l]at h;cases d<;>simp[lY,EU,sS]at h
def Ir{E:Env}{dep:Nat}{u j:Bool}{s:eC}{H:aa}{r:Ref}{o:Oper} :
 (∀q v,tp E (ar E) (dg E dep) dep u j s H r o = .inl q->q=some (v,[]) ->∃n,∀m,n<=m->tp E (dv E (cD E m)) (eF E (cD E m) dep) dep u j s H r o = .inl (some (v,[]))) /\
 (∀w v H',tp E (ar E) (dg E dep) dep u j s H r o = .inr w->w=some (v,H') ->∃n,∀m,n<=m->tp E (dv E (cD E m)) (eF E (cD E m) dep) dep u j s H r o = .inr (some (v,H'))):=by
 constructor
 ·intro q v h A;subst A;refine⟨0,λm _=>?_⟩;unfold tp at h ⊢;generalize o.op=op at h ⊢;cases op;all_goals try exact h
  case makeMap a b=>cases b<;>exact h
  rename_i c;dsimp only at h ⊢;cases i:Co (cT s) c.args.toList with
  | none=>rw[i]at h;exact h
  | some args=>
   rw[i]at h;dsimp only at h ⊢;cases e:c.callee with
   | value f=>
    rw[e]at h;dsimp only at h ⊢;cases d:Fz E.rR u f with
    | some t=>rw[d]at h;exact h
    | none=>rw[d]at h;dsimp only at h;split at h<;>cases h
   | invoke a b=>rw[e]at h;exact h
   | builtin b=>rw[e]at h;exact h
 intro w v H' h z;subst z;unfold tp at h ⊢;generalize o.op=op at h ⊢;cases op;all_goals try (exact⟨0,λm _=>h⟩)
 case makeMap a b=>cases b<;>exact⟨0,λm _=>h⟩
 rename_i c;dsimp only at h ⊢;cases i:Co (cT s) c.args.toList with
 | none=>rw[i]at h;cases h
 | some args=>
  rw[i]at h;dsimp only at h ⊢;cases e:c.callee with
  | value f=>
   rw[e]at h;dsimp only at h ⊢;cases d:Fz E.rR u f with
   | some t=>rw[d]at h;cases h
   | none=>
   rw[d]at h;dsimp only at h ⊢;cases g:E.gR o with
   | true=>rw[g]at h;simp only[zf]at h;obtain⟨n,l⟩:=L0 h;exact⟨n,λm p=>iQg _ (l m p)⟩
   | false=>rw[g]at h;simp only[zf]at h;obtain⟨n,l⟩:=Om h;exact⟨n,λm p=>iQg _ (l m p)⟩
  | invoke a b=>rw[e]at h;cases h
  | builtin b=>rw[e]at h;exact⟨0,λm _=>h⟩
def Kd{E:Env}{dep:Nat}{u c:Bool}{s:eC}{H:aa}{r:Ref}{o:Oper} :
 (∀q v,yO E (ar E) (dg E dep) dep u c s H r o = .inl q->q=some (v,[]) ->∃n,∀m,n<=m->yO E (dv E (cD E m)) (eF E (cD E m) dep) dep u c s H r o = .inl (some (v,[]))) /\
 (∀w v H',yO E (ar E) (dg E dep) dep u c s H r o = .inr w->w=some (v,H') ->∃n,∀m,n<=m->yO E (dv E (cD E m)) (eF E (cD E m) dep) dep u c s H r o = .inr (some (v,H'))):=by
 constructor
 ·intro q v h f;unfold yO at h ⊢;cases hd:D0 E u s H r o with
  | some w=>rw[hd]at h;cases h
  | none=>rw[hd]at h;obtain⟨n,d⟩:=Ir.1 q v h f;exact⟨n,d⟩
 intro w v H' h e;unfold yO at h ⊢;cases hd:D0 E u s H r o with
 | some w'=>rw[hd]at h;cases h;exact⟨0,λm _=>by rw[e]⟩
 | none=>rw[hd]at h;obtain⟨n,d⟩:=Ir.2 w v H' h e;exact⟨n,d⟩
abbrev Mk{c:Type}(a:c):Type:=Unit
structure dL (q:jx) (K:AV->Prop) (m:Mk K:=()):Prop where
 h : ∃v,q=some (v,[])/\K v
structure iE (w:cR) (K:AV->aa->Prop) (m:Mk K:=()):Prop where
 h : ∃v H,w=some (v,H)/\K v H
def aaS(x:AV)(c:Bool):Option Bool:=
 match x with
 | .v (.bool b)=>some (b == c)
 | .v (.tuple d)=>if d.isEmpty then some false else none
 | _=>none
def gd(x:AV)(c:Bool)(A B:Prop):Prop:=
 match aaS x c with
 | some true=>A
 | some false=>B
 | none=>False
structure gQ (x:AV) (want:Bool) (q:jx) (K:AV->Prop) (m:Mk (q,K):=()):Prop where
 h:gd x want (dL q K) (K AV.undef)
structure gW (x:AV) (want:Bool) (H:aa) (w:cR) (K:AV->aa->Prop) (m:Mk (w,K):=()):Prop where
 h:gd x want (iE w K) (K AV.undef H)
def brP(x:Option AV)(A B:Prop):Prop:=
 match x.bind E9 with
 | some b=>cond b A B
 | none=>False
structure br (x:Option AV) (A B:Prop) (m:Mk (A,B):=()):Prop where
 h:brP x A B
def LM(ops:Array Oper)(s:eC)(o:Oper):Option (Option (AV × Bool)):=
 match o.guard with
 | none=>none
 | some (j,c)=>match (ops[j]?).bind (·.dst) with
  | some t=>some (some (s t,c))
  | none=>some none
def JE(nt:Nat)(s:eC)(dst:Option Tmp)(v:AV)(K:eC->Prop):Prop:=
 match dst with
 | none=>K s
 | some d=>cond (Nat.blt d nt) (K (adG s d v)) False
def ab5(E:Env)(nt dep:Nat)(u:Bool)(ops:Array Oper)(o:Oper)(s:eC)(H:aa)(K:eC->aa->Prop):Prop:=
 match yO E (ar E) (dg E dep) dep u (!(u && !jv E o)) s H ⟨dep,o.dst.getD 0,H.gen dep (o.dst.getD 0),0⟩ o with
 | .inl q=>match LM ops s o with
  | none=>(match o.op with
   | .move x | .assign x=>(match cT s x with
    | some v=>JE nt s o.dst v λs=>K s H
    | none=>False)
   | _=>dL q λv=>JE nt s o.dst v λs=>K s H)
  | some (some (x,c))=>gQ x c q λv=>JE nt s o.dst v λs=>K s H
  | some none=>JE nt s o.dst AV.undef λs=>K s H
 | .inr w=>match LM ops s o with
  | none=>iE w λv H=>JE nt s o.dst v λs=>K s H
  | some (some (x,c))=>gW x c H w λv H=>JE nt s o.dst v λs=>K s H
  | some none=>JE nt s o.dst AV.undef λs=>K s H
def wpOps(E:Env)(nt dep:Nat)(u:Bool)(ops:Array Oper):List Oper->eC->aa->(eC->aa->Prop)->Prop
 | [],s,H,K=>K s H
 | o :: os,s,H,K=>ab5 E nt dep u ops o s H λs H=>wpOps E nt dep u ops os s H K
def Fin(E:Env)(fn:Func)(rd:Option Ref)(o:Option St)(y:AV)(H':aa):Prop:=match rd with
 | none =>∃st,o=some st/\yH E.P fn st=some y/\st.hp=H'
 | some r =>∃st n,o=xG (some r) st n/\y = .v (.int .i64 (n:Nat))/\st.hp=H'
def vo(E:Env)(fn:Func)(rd:Option Ref)(dep:Nat)(c:List Item)(s:eC)(H:aa)(Q:AV->aa->Prop):Prop:=
 ∀tm,eM tm s ->∃y H',Q y H' /\∃n,∀m,n<=m->Fin E fn rd (cD E m rd fn.ntmps dep c ⟨tm,H⟩) y H'
def OE(g:eC):List (Nat × AV)->eC
 | [],i=>g i
 | (j,v) :: l,i=>cond (Nat.beq i j) v (OE g l i)
structure X6 (E:Env) (fn:Func) (rd:Option Ref) (dep:Nat) (items:List Item) (l:List (Nat × AV)) (H:aa) (Q:AV->aa->Prop):Prop where
 h : ∀g,vo E fn rd dep items (OE g l) H Q
abbrev bS(E:Env)(fn:Func)(dep:Nat)(c:List Item)(l:List (Nat × AV))(H:aa)(Q:AV->aa->Prop):Prop:=X6 E fn none dep c l H Q
def Dt(s:eC):List Nat->List (Nat × AV)
 | []=>[]
 | t :: c=>(t,s t) :: Dt s c
def Wo(s:eC)(l:List Nat):OE s (Dt s l)=s:=by
 induction l with| nil=>rfl| cons t l c=>
  funext i;show cond (Nat.beq i t) (s t) (OE s (Dt s l) i)=s i;rw[c];cases h:Nat.beq i t with
  | true=>rw[kT h];rfl
  | false=>rfl
def l9:Code->Option Nat
 | .region id _ _=>some id
 | .seq a b=>match l9 a with
  | some i=>some i
  | none=>l9 b
 | .cond _ a b=>match l9 a with
  | some i=>some i
  | none=>l9 b
 | .block _ c | .loop c | .scope c=>l9 c
 | _=>none
def yJ(P:Program)(H:aa)(x:AV)(t:TypeId):jx:=
 match x,eK P t,aE P t with
 | .ptr r i j,some g,some n=>match H.get r with
  | some b=>iL (bF b.es i j n g)
  | none=>none
 | _,_,_=>none
def pack:List AV->AV
 | [] => .v (.tuple #[])
 | [x]=>x
 | xs => .tup xs
def G0(P:Program)(s:eC)(H:aa)(Q:AV->aa->Prop):List ResultVar->List AV->Prop
 | [],acc=>Q (pack acc.reverse) H
 | .tmp t :: rs,acc=>G0 P s H Q rs (s t :: acc)
 | .cell a t :: rs,acc=>dL (yJ P H (s a) t) λv=>G0 P s H Q rs (v :: acc)
def rP(x y:AV):Bool:=match lC x,lC y with
 | some r,some r'=>decide (r≠r')
 | _,_=>true
def HA(H:aa)(x:AV):Bool:=match x with
 | .ptr r _ _=>(match H.get r with
  | some b => !b.arr
  | none=>false)
 | _=>true
def bsV(x:AV):Bool:=match x with
 | .bk .. => true
 | .v _=>true
 | _=>false
def VX(s:eC)(p:Tmp × Tmp):Bool:=rP (s p.1) (s p.2)
def HB(s:eC)(H:aa)(o:Oper):Bool:=match o.op with
 | .store _ (.tmp t) _=>HA H (s t)
 | _=>true
def R2(E:Env)(s:eC)(o:Oper):Bool := !(E.gR o&&BQ o.op)||(match bsT o.op with
 | some t=>bsV (s t)
 | none=>false)
def XI(E:Env)(l:List (Tmp × Tmp))(ops:Array Oper)(s:eC)(H:aa):Prop:=l.all (VX s)=true/\ops.toList.all (HB s H)=true/\ops.toList.all (R2 E s)=true
def qJ(l:List (AV × AV))(st bs:List AV)(H:aa):Prop:=(l.all λp=>rP p.1 p.2)=true/\st.all (HA H)=true/\bs.all bsV=true
def aa6(assign body:Code):Nat:=match l9 (.seq assign body) with
 | some i=>i+10000
 | none=>10000
structure bgP (o:Option (Nat × AV)) (K:AV->Prop) (m:Mk K:=()):Prop where
 h : ∃info,o=some (0,info)/\K info
def Mp(P:Program)(fn:Func)(rd:Option Ref)(c:Nat)(s:eC)(H:aa)(Q:AV->aa->Prop):Prop:=match rd with
 | none=>cond (Nat.ble c 2) (G0 P s H Q fn.results.toList []) False
 | some _=>Q (.v (.int .i64 c)) H
def wp(E:Env)(fn:Func)(rd:Option Ref)(dep:Nat)(live:Nat->Option (List Nat))(cut:Nat->Bool)(Q:AV->aa->Prop):Nat->List Item->eC->aa->Prop
 | 0,items,s,H=>vo E fn rd dep items s H Q
 | n+1,items,s,H=>
  match items with
  | []=>Mp E.P fn rd 0 s H Q
  | .beginRound :: k=>(match rd with
   | none=>False
   | some r=>bgP (yQ H r) λd=>wp E fn rd dep live cut Q n k s (H.put r (some (ei 1 d))))
  | .code c :: k=>
   (match c with
   | .skip | .label _=>wp E fn rd dep live cut Q n k s H
   | .ret=>Mp E.P fn rd 2 s H Q
   | .seq a b=>wp E fn rd dep live cut Q n (.code a :: .code b :: k) s H
   | .cond c a b=>br (cT s c) (wp E fn rd dep live cut Q n (.code a :: k) s H) (wp E fn rd dep live cut Q n (.code b :: k) s H)
   | .block id b=>wp E fn rd dep live cut Q n (.code b :: .inBlock id :: k) s H
   | .scope b=>wp E fn rd dep live cut Q n (.code b :: .inScope b :: k) s H
   | .loop b=>(match (l9 b).bind live with
    | some l=>X6 E fn rd dep (.inLoop b :: k) (Dt s l) H Q
    | none=>vo E fn rd dep (.inLoop b :: k) s H Q)
   | .exit id=>(match exitTo id k with
    | some k'=>wp E fn rd dep live cut Q n k' s H
    | none=>Mp E.P fn rd (id+3) s H Q)
   | .rangeFunc g ps a b=>(match live (aa6 a b) with
    | some l=>X6 E fn rd dep (.code (.rangeFunc g ps a b) :: k) (Dt s l) H Q
    | none=>vo E fn rd dep (.code (.rangeFunc g ps a b) :: k) s H Q)
   | .region id ops u=>(match cut id with
    | true=>(match live id with
     | some l=>X6 E fn rd dep (.code (.region id ops u) :: k) (Dt s l) H Q
     | none=>False)
    | false=>wpOps E fn.ntmps dep u ops ops.toList s H λs H=>
     (match u,sj E ops with
     | true,p :: ps=>XI E (p :: ps) ops s H/\wp E fn rd dep live cut Q n k s H
     | _,_=>wp E fn rd dep live cut Q n k s H))
   | _=>False)
  | .inLoop b :: k=>(match (l9 b).bind live with
   | some l=>X6 E fn rd dep (.inLoop b :: k) (Dt s l) H Q
   | none=>vo E fn rd dep (.inLoop b :: k) s H Q)
  | .inBlock _ :: k | .inScope _ :: k=>wp E fn rd dep live cut Q n k s H
  | _=>False
def tW{ops:Array Oper}{tm:List AV}{s:eC}(h:eM tm s)(o:Oper):wanted ops tm o=(match LM ops s o with
 | none=>some true
 | some (some (x,c))=>aaS x c
 | some none=>some false):=by
 unfold wanted LM;split;·rename_i d;rw[d]
 rename_i j c d;rw[d];dsimp only;split;·rename_i t e;rw[e];dsimp only;rw[h t];rfl
 rename_i e;rw[e]
def xa{nt:Nat}{s:eC}{dst:Option Tmp}{v:AV}{K:eC->Prop}(h:JE nt s dst v K) : ∃f,K f /\∀tm,eM tm s ->∃tm',dx nt tm dst v=some tm'/\eM tm' f:=by
 unfold JE at h;cases dst with
 | none=>exact⟨s,h,λtm e=>⟨tm,rfl,e⟩⟩
 | some d=>
  dsimp only at h;cases hd:Nat.blt d nt with
  | false=>rw[hd]at h;exact h.elim
  | true=>rw[hd]at h;refine⟨_,h,λtm e=>⟨_,?_,e.set d v⟩⟩;have c:d<nt:=GV hd;simp only[dx,if_pos c]
def Yb{E:Env}{nt dep:Nat}{u:Bool}{ops:Array Oper}{o:Oper}{s:eC}{H:aa}{K:eC->aa->Prop}(h:ab5 E nt dep u ops o s H K) :
 ∃c H',K c H' /\∀tm,eM tm s ->∃tm',eM tm' c /\∃n,∀m,n<=m->Am E (dv E (cD E m)) (eF E (cD E m) dep) nt dep u ops o ⟨tm,H⟩=some ⟨tm',H'⟩:=by
 have run : ∀(v:AV)(H':aa)(c:eC),(∀tm,eM tm s->wanted ops tm o=some true)->(∃n,∀m,n<=m ->∀tm,eM tm s->yT E (dv E (cD E m)) (eF E (cD E m) dep) dep u tm H o=some (v,H')) ->
  (∀tm,eM tm s ->∃tm',dx nt tm o.dst v=some tm'/\eM tm' c) ->
  ∀tm,eM tm s ->∃tm',eM tm' c /\∃n,∀m,n<=m->Am E (dv E (cD E m)) (eF E (cD E m) dep) nt dep u ops o ⟨tm,H⟩=some ⟨tm',H'⟩:=by
  intro v H' c l ⟨n,C⟩ hp tm d;obtain⟨tm',I,J⟩:=hp tm d;refine⟨tm',J,n,λm F=>?_⟩;rw[LP];dsimp only;rw[l tm d,C m F tm d];dsimp only;rw[I];rfl
 have i : ∀(c:eC),(∀tm,eM tm s->wanted ops tm o=some false)->(∀tm,eM tm s ->∃tm',dx nt tm o.dst AV.undef=some tm'/\eM tm' c) ->
  ∀tm,eM tm s ->∃tm',eM tm' c /\∃n,∀m,n<=m->Am E (dv E (cD E m)) (eF E (cD E m) dep) nt dep u ops o ⟨tm,H⟩=some ⟨tm',H⟩:=by
  intro c l hp tm d;obtain⟨tm',I,J⟩:=hp tm d;refine⟨tm',J,0,λm _=>?_⟩;rw[LP];dsimp only;rw[l tm d];dsimp only;rw[I];rfl
 unfold ab5 at h;split at h
 ·rename_i q z;have A : ∀v,q=some (v,[]) ->∃n,∀m,n<=m ->∀tm,eM tm s->yT E (dv E (cD E m)) (eF E (cD E m) dep) dep u tm H o=some (v,H):=by
   intro v e;obtain⟨n,C⟩:=Kd.1 q v z e;exact⟨n,λm F tm d=>Zz d (C m F) rfl⟩
  split at h
  ·rename_i j;have l : ∀tm,eM tm s->wanted ops tm o=some true:=λtm d=>by rw[tW d,j]
   have g : ∀v,q=some (v,[])->JE nt s o.dst v (λs=>K s H) ->∃c H',K c H' /\∀tm,eM tm s ->∃tm',eM tm' c /\∃n,∀m,n<=m->Am E (dv E (cD E m)) (eF E (cD E m) dep) nt dep u ops o ⟨tm,H⟩=some ⟨tm',H'⟩:=(by intro v e hp;obtain⟨c,f,hp⟩:=xa hp;exact⟨c,H,f,run v H c l (A v e) hp⟩);split at h
   ·rename_i x G;split at h;·rename_i v e;refine g v ?_ h;unfold yO D0 tp at z;simp only[G,AE,e,ite_self]at z;rw[<-z];rfl
    exact h.elim
   ·rename_i x G;split at h;·rename_i v e;refine g v ?_ h;unfold yO D0 tp at z;simp only[G,AE,e,ite_self]at z;rw[<-z];rfl
    exact h.elim
   obtain⟨v,e,h⟩:=h.h;exact g v e h
  ·rename_i x D j;replace h:=h.h;unfold gd at h;split at h;·rename_i p;obtain⟨v,e,h⟩:=h.h;obtain⟨c,f,hp⟩:=xa h;exact⟨c,H,f,run v H c (λtm d=>by rw[tW d,j];exact p) (A v e) hp⟩
   ·rename_i p;obtain⟨c,f,hp⟩:=xa h;exact⟨c,H,f,i c (λtm d=>by rw[tW d,j];exact p) hp⟩
   exact h.elim
  rename_i j;obtain⟨c,f,hp⟩:=xa h;exact⟨c,H,f,i c (λtm d=>by rw[tW d,j]) hp⟩
 rename_i w l;have B : ∀v H',w=some (v,H') ->∃n,∀m,n<=m ->∀tm,eM tm s->yT E (dv E (cD E m)) (eF E (cD E m) dep) dep u tm H o=some (v,H'):=by
  intro v H' e;obtain⟨n,C⟩:=Kd.2 w v H' l e;exact⟨n,λm F tm d=>Zy d (C m F) rfl⟩
 split at h;·rename_i j;obtain⟨v,H',e,h⟩:=h.h;obtain⟨c,f,hp⟩:=xa h;exact⟨c,H',f,run v H' c (λtm d=>by rw[tW d,j]) (B v H' e) hp⟩
 ·rename_i x D j;replace h:=h.h;unfold gd at h;split at h;·rename_i p;obtain⟨v,H',e,h⟩:=h.h;obtain⟨c,f,hp⟩:=xa h;exact⟨c,H',f,run v H' c (λtm d=>by rw[tW d,j];exact p) (B v H' e) hp⟩
  ·rename_i p;obtain⟨c,f,hp⟩:=xa h;exact⟨c,H,f,i c (λtm d=>by rw[tW d,j];exact p) hp⟩
  exact h.elim
 rename_i j;obtain⟨c,f,hp⟩:=xa h;exact⟨c,H,f,i c (λtm d=>by rw[tW d,j]) hp⟩
def UI{E:Env}{nt dep:Nat}{u:Bool}{ops:Array Oper}{K:eC->aa->Prop} : ∀ {l:List Oper} {s:eC} {H:aa},wpOps E nt dep u ops l s H K ->
 ∃g H',K g H' /\∀tm,eM tm s ->∃tm',eM tm' g /\∃n,∀m,n<=m->oa E (dv E (cD E m)) (eF E (cD E m) dep) nt dep u ops l ⟨tm,H⟩=some ⟨tm',H'⟩:=by
 intro l;induction l with
 | nil=>intro s H h;exact⟨s,H,h,λtm f=>⟨tm,f,0,λm _=>rfl⟩⟩
 | cons o l p=>intro s H h;obtain⟨s1,H1,i,d⟩:=Yb h;obtain⟨s2,q,w,e⟩:=p i;refine⟨s2,q,w,λtm f=>?_⟩;obtain⟨tm1,t1,n1,v⟩:=d tm f;obtain⟨c,t2,n2,j⟩:=e tm1 t1;exact⟨c,t2,max n1 n2,λm z=>by simp only[oa,v m (by omega),j m (by omega)]⟩
def UH{P:Program}{fn:Func}{s:eC}{H:aa}{Q:AV->aa->Prop} : ∀ {rs:List ResultVar} {c:List AV},G0 P s H Q rs c ->
 ∃f,Q (pack (c.reverse++f)) H /\∀tm,eM tm s->rs.mapM (mg P ⟨tm,H⟩)=some f:=by
 intro rs;induction rs with
 | nil=>intro c h;exact⟨[],by simpa [G0] using h,λtm _=>rfl⟩
 | cons r rs q=>
  intro c h;cases r with
  | tmp t=>obtain⟨f,m,p⟩:=q h;refine⟨s t :: f,by simpa using m,λtm l=>?_⟩;simp only[nP,mg,p tm l,l t,sP,tV,eD]
  | cell a t=>
   obtain⟨v,d,h⟩:=h.h;obtain⟨f,m,p⟩:=q h;refine⟨v :: f,by simpa using m,λtm l=>?_⟩;have F:mg P ⟨tm,H⟩ (.cell a t)=some v:=by
    unfold yJ at d;simp only[mg,l a];split at d
    ·rename_i r i j g n B A C;rw[B,A,C];dsimp only;split at d;·rename_i b D;rw[D];dsimp only;simp only[iL,bI]at d;obtain⟨z,w,e⟩:=d;cases e;exact w
     cases d
    cases d
   simp only[nP,F,p tm l,sP,tV,eD]
def M4{E:Env}{fn:Func}{s:eC}{H:aa}{Q:AV->aa->Prop}(h:G0 E.P s H Q fn.results.toList []) : ∃y,Q y H /\∀tm,eM tm s->yH E.P fn ⟨tm,H⟩=some y:=by
 obtain⟨c,d,e⟩:=UH (fn:=fn) h;refine⟨pack c,by simpa using d,λtm f=>?_⟩;unfold yH;rw[e tm f];match c with
 | []=>rfl
 | [x]=>rfl
 | x :: y :: zs=>rfl
def pe{E:Env}{fn:Func}{rd:Option Ref}{dep:Nat}{d c:List Item}{s:eC}{H:aa}{Q:AV->aa->Prop}
 (f : ∀n tm,cD E (n+1) rd fn.ntmps dep d ⟨tm,H⟩=cD E n rd fn.ntmps dep c ⟨tm,H⟩) (h:vo E fn rd dep c s H Q):vo E fn rd dep d s H Q:=by
 intro tm j;obtain⟨y,H',g,n,i⟩:=h tm j;refine⟨y,H',g,n+1,λm l=>?_⟩;obtain⟨m,rfl⟩ : ∃e,m=e+1:=⟨m - 1,by omega⟩;rw[f];exact i m (by omega)
def TO{E:Env}{fn:Func}{rd:Option Ref}{dep:Nat}{b:Code}{k:List Item}{s:eC}{H:aa}{Q:AV->aa->Prop}(h:vo E fn rd dep (.code b :: .inLoop b :: k) s H Q):vo E fn rd dep (.inLoop b :: k) s H Q:=
 pe (λn tm=>by simp only[cD]) h
def Qc{E:Env}{fn:Func}{rd:Option Ref}{dep:Nat}{b:Code}{k:List Item}{s:eC}{H:aa}{Q:AV->aa->Prop}(h:vo E fn rd dep (.inLoop b :: k) s H Q):vo E fn rd dep (.code (.loop b) :: k) s H Q:=by
 intro tm g;obtain⟨y,H',d,n,f⟩:=h tm g;refine⟨y,H',d,n+1,λm i=>?_⟩;obtain⟨m,rfl⟩ : ∃c,m=c+1:=⟨m - 1,by omega⟩;have:=f (m+1) (by omega);have e:cD E (m+1) rd fn.ntmps dep (.code (.loop b) :: k) ⟨tm,H⟩=cD E (m+1) rd fn.ntmps dep (.inLoop b :: k) ⟨tm,H⟩:=by simp only[cD]
 rw[e];exact this
def Kr{E:Env}{fn:Func}{rd:Option Ref}{dep:Nat}{c:List Item}{s:eC}{l:List Nat}{H:aa}{Q:AV->aa->Prop}(h:X6 E fn rd dep c (Dt s l) H Q):vo E fn rd dep c s H Q:=by
 have:=h.h s;rwa [Wo]at this
def IK{E:Env}{fn:Func}{rd:Option Ref}{dep c:Nat}{d:List Item}{s:eC}{H:aa}{Q:AV->aa->Prop}
 (g : ∀n tm,rd.isSome=true\/c<=2->cD E (n+1) rd fn.ntmps dep d ⟨tm,H⟩=(match rd with | none=>some ⟨tm,H⟩ | some r=>xG (some r) ⟨tm,H⟩ c)) (h:Mp E.P fn rd c s H Q):vo E fn rd dep d s H Q:=by
 intro tm l;cases rd with
 | none=>
  unfold Mp at h;dsimp only at h;cases f:Nat.ble c 2 with
  | false=>rw[f]at h;exact h.elim
  | true=>rw[f]at h;obtain⟨y,i,j⟩:=M4 h;refine⟨y,H,i,1,λm p=>?_⟩;obtain⟨m,rfl⟩ : ∃e,m=e+1:=⟨m - 1,by omega⟩;exact⟨⟨tm,H⟩,g m tm (.inr (GV f)),j tm l,rfl⟩
 | some r=>refine⟨.v (.int .i64 c),H,h,1,λm p=>?_⟩;obtain⟨m,rfl⟩ : ∃e,m=e+1:=⟨m - 1,by omega⟩;exact⟨⟨tm,H⟩,c,g m tm (.inl rfl),rfl,rfl⟩
def Uh{E:Env}{ops:Array Oper}{s:eC}{H:aa}{tm:List AV}(c:eM tm s)(h:XI E (sj E ops) ops s H):tM E ops ⟨tm,H⟩=true:=by
 unfold tM;rw[jH,bo];refine .inr ⟨?_,?_⟩;·refine Eq.trans ?_ h.1;congr 1;funext p;unfold Fw VX rP;rw[c,c];rfl
 rw[bo];refine⟨Eq.trans ?_ h.2.1,Eq.trans ?_ h.2.2⟩
 ·congr 1;funext o;unfold yC HB;generalize o.op=op;cases op<;>try rfl
  rename_i t a x;cases a<;>try rfl
  rename_i t';dsimp only;rw[c t'];rfl
 congr 1;funext o;unfold IZ R2;congr 1;cases bsT o.op with
 | none=>rfl
 | some t=>dsimp only;rw[c t];rfl
def sQ{E:Env}{fn:Func}{rd:Option Ref}{dep:Nat}{live:Nat->Option (List Nat)}{cut:Nat->Bool}{Q:AV->aa->Prop} : ∀ {n:Nat} {d:List Item} {s:eC} {H:aa},
 wp E fn rd dep live cut Q n d s H->vo E fn rd dep d s H Q:=by
 intro n;induction n with
 | zero=>intro d s H h;exact h
 | succ n f=>
  intro d s H h;have g : ∀ {k:List Item} {x:Option (List Nat)},(match x with | some l=>X6 E fn rd dep k (Dt s l) H Q | none=>vo E fn rd dep k s H Q)->vo E fn rd dep k s H Q:=by
   intro k x h;cases x with
   | some l=>exact Kr h
   | none=>exact h
  unfold wp at h;split at h;·exact IK (λn tm _=>by cases rd<;>simp only[cD]) h
  ·rename_i k;split at h;·exact h.elim
   rename_i r;obtain⟨info,O,h⟩:=h.h;intro tm i;obtain⟨y,H',q,n,C⟩:=f h tm i;refine⟨y,H',q,n+1,λm J=>?_⟩;obtain⟨m,rfl⟩ : ∃v,m=v+1:=⟨m - 1,by omega⟩;have:=C m (by omega);have e:cD E (m+1) (some r) fn.ntmps dep (.beginRound :: k) ⟨tm,H⟩=cD E m (some r) fn.ntmps dep k ⟨tm,H.put r (some (ei 1 info))⟩:=by simp only[cD,O]
   rw[e];exact this
  ·rename_i c k;split at h;·exact pe (λn tm=>by simp only[cD]) (f h)
   ·exact pe (λn tm=>by simp only[cD]) (f h)
   ·exact IK (λn tm _=>by cases rd<;>simp[cD,xG]) h
   ·exact pe (λn tm=>by simp only[cD]) (f h)
   ·rename_i c a b;replace h:=h.h;unfold brP at h;split at h
    ·rename_i w K;have F:vo E fn rd dep (.code (cond w a b) :: k) s H Q:=by cases w<;>exact f h
     intro tm i;obtain⟨y,H',q,n,C⟩:=F tm i;refine⟨y,H',q,n+1,λm J=>?_⟩;obtain⟨m,rfl⟩ : ∃v,m=v+1:=⟨m - 1,by omega⟩;have:=C m (by omega);have e:cD E (m+1) rd fn.ntmps dep (.code (.cond c a b) :: k) ⟨tm,H⟩=cD E m rd fn.ntmps dep (.code (cond w a b) :: k) ⟨tm,H⟩:=by
      simp only[cD,wi i,K];cases w<;>rfl
     rw[e];exact this
    exact h.elim
   ·exact pe (λn tm=>by simp only[cD]) (f h)
   ·exact pe (λn tm=>by simp only[cD]) (f h)
   ·exact Qc (g h)
   ·rename_i id;split at h;·rename_i k' B;exact pe (λn tm=>by simp only[cD,B]) (f h)
    rename_i B;exact IK (λn tm z=>by
     simp only[cD,B];cases rd with
     | none=>
      rcases z with z | z
      ·cases z
      omega
     | some r=>rfl) h
   ·exact g h
   ·rename_i id ops u;split at h
    ·split at h;·exact Kr h
     exact h.elim
    obtain⟨I,H',j,A⟩:=UI h;have N:vo E fn rd dep k I H' Q /\∀tm,eM tm I->(u && !tM E ops ⟨tm,H'⟩)=false:=by
     cases u with| false=>exact⟨f j,λ_ _=>rfl⟩| true=>
      cases hp:sj E ops with
      | nil=>rw[hp]at j;refine⟨f j,λtm i=>?_⟩;unfold tM;rw[hp];rfl
      | cons p ps=>rw[hp]at j;exact⟨f j.2,λtm i=>by rw[Uh i (by rw[hp];exact j.1)];rfl⟩
    obtain⟨F,G⟩:=N;intro tm i;obtain⟨tm1,t1,n1,L⟩:=A tm i;obtain⟨y,M,q,n2,D⟩:=F tm1 t1;refine⟨y,M,q,max n1 n2+1,λm J=>?_⟩;obtain⟨m,rfl⟩ : ∃v,m=v+1:=⟨m - 1,by omega⟩;have:=D m (by omega);have e:cD E (m+1) rd fn.ntmps dep (.code (.region id ops u) :: k) ⟨tm,H⟩=cD E m rd fn.ntmps dep k ⟨tm1,H'⟩:=(by simp only[cD,L m (by omega),G tm1 t1];simp);rw[e];exact this
   exact h.elim
  ·exact g h
  ·exact pe (λn tm=>by simp only[cD]) (f h)
  ·exact pe (λn tm=>by simp only[cD]) (f h)
  exact h.elim
def FO:Nat->List AV->List (Nat × AV)
 | _,[]=>[]
 | i,x :: xs=>(i,x) :: FO (i+1) xs
def It(args:List AV)(i:Nat):OE (λ_=>AV.undef) (FO 0 args) i=df args i:=by
 have : ∀(j:Nat)(l:List AV),OE (λ_=>AV.undef) (FO j l) (j+i)=df l i:=by
  induction i with
  | zero=>
   intro j l;cases l with
   | nil=>rfl
   | cons x l=>show cond (Nat.beq (j+0) j) x _=x;rw[show Nat.beq (j+0) j=true from by simp];rfl
  | succ i c=>
   intro j l;cases l with
   | nil=>rfl
   | cons x l=>
    show cond (Nat.beq (j+(i+1)) j) x (OE (λ_=>AV.undef) (FO (j+1) l) (j+(i+1)))=df l i;have e:Nat.beq (j+(i+1)) j=false:=by
     cases h:Nat.beq (j+(i+1)) j with| false=>rfl| true=>have:=kT h;omega
    rw[e];show OE _ _ _=_;rw[<-c (j+1) l,show j+1+i=j+(i+1) by omega]
 simpa using this 0 args
def cU(E:Env)(f:FuncId)(x:AV)(H:aa)(y:AV):Prop:=
 if uJ (E.mode f)=true then (ah H.get depth x).Nodup/\bO H.get depth x=some y else view H.get depth x=some y
def xf{E:Env}{f:FuncId}{fn:Func}{c:Code}{args:List AV}{y:AV}(g:E.spec f args=none)(j:E.allowed f=true)(l:E.P.funcs[f]?=some fn)(v:fn.body=some c)(A:Nat.ble args.length fn.ntmps=true)
 (h:bS E fn 0 [.code c] (FO 0 args) [] λx H=>cU E f x H y):ar E f args=some y:=by
 rw[xg];obtain⟨x,H,d,n,q⟩:=h.h (λ_=>AV.undef) args λi=>(It args i).symm;refine⟨n,λm z=>?_⟩;obtain⟨st,e,w,p⟩:=q m z;subst p;unfold dv;rw[g];unfold wu;simp only[j,if_true,l,v,if_pos (GV A),e,w,Option.map_some];unfold cU at d;split;·rename_i e;rw[if_pos e]at d;rw[if_pos d.1];exact d.2
 rename_i e;rw[if_neg e]at d;exact d
def qn{E:Env}{f:FuncId}{fn:Func}{c:Code}{dep:Nat}{args:List AV}{H:aa}{Q:AV->aa->Prop}(A:E.mode f=2)(e:E.allowed f=true)(j:E.P.funcs[f]?=some fn)(w:fn.body=some c)(B:Nat.ble args.length fn.ntmps=true)
 (h:bS E fn (dep+1) [.code c] (FO 0 args) H Q) (d:E.thrSpec f args H=none:=by rfl) : ∃y H',dg E dep (.fn f) args H=some (y,H')/\Q y H':=by
 obtain⟨x,H1,p,n,v⟩:=h.h (λ_=>AV.undef) args λi=>(It args i).symm;refine⟨x,H1,qB.2 ⟨n,λm g=>?_⟩,p⟩;obtain⟨st,q,z,l⟩:=v m g;unfold eF;dsimp only;rw[d];dsimp only;rw[if_pos A];unfold wu;simp only[e,if_true,j,w,if_pos (GV B),q,z,Option.map_some,l]
def WI{E:Env}{fn:Func}{dep nt:Nat}{r:Ref}{f:FuncId}{ps:List Tmp}{assign body:Code}{tm:List AV}{args:List AV}{H:aa}{Q:AV->aa->Prop}
 (K:yQ H r=some (0,.lp f nt ps assign body tm)) (B:fn.ntmps=nt) (hp:args.length=ps.length) (w:ps.all (· < nt)=true) (G:codeOk E.ok assign=true) (C:codeOk E.ok body=true)
 (h:vo E fn (some r) (dep+1) [.code assign,.beginRound,.code body] (df (vT tm ps args)) H λx H' =>∃c:Nat,x = .v (.int .i64 c) /\∃d g,yQ H' r=some (1,d)/\g=H'.put r (some (ei c d)) /\
  yQ g r=some (c,d)/\(c=0->Q (.v (.bool true)) g)/\(2<=c->Q (.v (.bool false)) g)/\c≠1) :
 ∃y H',dg E dep (.yld r) args H=some (y,H')/\Q y H':=by
 obtain⟨x,H1,⟨c,rfl,d,g,A,rfl,I,p,q,e⟩,n,l⟩:=h (vT tm ps args) (λi=>rfl);have key : ∀m,n<=m->BA E (cD E m) (dep+1) r args H=some (.v (.bool (c == 0)),H1.put r (some (ei c d))):=by
  intro m J;obtain⟨st,k,F,j,D⟩:=l m J;injection j with j
  injection j with j z
  have z:c=k:=(by exact_mod_cast z);subst z;subst B;unfold BA;rw[K];simp only;rw[if_pos ⟨hp,w,G,C⟩,F];unfold xG;simp only[D,A,I];match c with
  | 0=>rfl
  | 1=>exact(e rfl).elim
  | k+2=>rfl
 have ZP : ∀m,n<=m->eF E (cD E m) dep (.yld r) args H=some (.v (.bool (c == 0)),H1.put r (some (ei c d))):=key;refine⟨_,_,qB.2 ⟨n,ZP⟩,?_⟩;match c with
 | 0=>exact p rfl
 | 1=>exact(e rfl).elim
 | k+2=>exact q (by omega)
def IJ{E:Env}{fn:Func}{dep:Nat}{g:Operand}{ps:Array Tmp}{assign body:Code}{k:List Item}{s:eC}{H:aa}{Q:AV->aa->Prop}{gi:FuncId}{first captured:List AV}
 (B:cT s g=some (.fn (.func gi) first captured))
 (h : ∀tm,eM tm s ->∃v c st d,dg E dep (.fn gi) (first++[.yld ⟨dep,fn.ntmps,H.gen dep fn.ntmps,0⟩]++captured) ((⟨dep,fn.ntmps,H.gen dep fn.ntmps,0⟩,some (ei 0 (.lp 0 fn.ntmps ps.toList assign body tm))) :: H)=some (v,c) /\
  yQ c ⟨dep,fn.ntmps,H.gen dep fn.ntmps,0⟩=some (st,d) /\
  (
   (st=0/\vo E fn none dep k s (c.put ⟨dep,fn.ntmps,H.gen dep fn.ntmps,0⟩ none) Q) \/
   (st=2/\G0 E.P s (c.put ⟨dep,fn.ntmps,H.gen dep fn.ntmps,0⟩ none) Q fn.results.toList []) \/
   (∃id k',st=id+3/\exitTo id k=some k'/\vo E fn none dep k' s (c.put ⟨dep,fn.ntmps,H.gen dep fn.ntmps,0⟩ none) Q))) :
 vo E fn none dep (.code (.rangeFunc g ps assign body) :: k) s H Q:=by
 intro tm q;obtain⟨v,c,st,d,A,w,C⟩:=h tm q;obtain⟨n1,f⟩:=qB.1 A;have j:aP tm g=some (.fn (.func gi) first captured):=by rw[wi q];exact B
 rcases C with ⟨rfl,l⟩ | ⟨rfl,l⟩ | ⟨id,k',rfl,he,l⟩
 ·obtain⟨y,H',n,n2,i⟩:=l tm q;refine⟨y,H',n,max n1 n2+1,λm z=>?_⟩;obtain⟨m,rfl⟩ : ∃p,m=p+1:=⟨m - 1,by omega⟩;have e:cD E (m+1) none fn.ntmps dep (.code (.rangeFunc g ps assign body) :: k) ⟨tm,H⟩=cD E m none fn.ntmps dep k ⟨tm,c.put ⟨dep,fn.ntmps,H.gen dep fn.ntmps,0⟩ none⟩:=(by simp only[cD,j,f m (by omega),w]);rw[e];exact i m (by omega)
 ·obtain⟨y,n,D⟩:=M4 l;refine⟨y,_,n,n1+1,λm z=>?_⟩;obtain⟨m,rfl⟩ : ∃p,m=p+1:=⟨m - 1,by omega⟩;have e:cD E (m+1) none fn.ntmps dep (.code (.rangeFunc g ps assign body) :: k) ⟨tm,H⟩=some ⟨tm,c.put ⟨dep,fn.ntmps,H.gen dep fn.ntmps,0⟩ none⟩:=(by simp only[cD,j,f m (by omega),w]);rw[e];exact⟨_,rfl,D tm q,rfl⟩
 obtain⟨y,H',n,n2,i⟩:=l tm q;refine⟨y,H',n,max n1 n2+1,λm z=>?_⟩;obtain⟨m,rfl⟩ : ∃p,m=p+1:=⟨m - 1,by omega⟩;have e:cD E (m+1) none fn.ntmps dep (.code (.rangeFunc g ps assign body) :: k) ⟨tm,H⟩=cD E m none fn.ntmps dep k' ⟨tm,c.put ⟨dep,fn.ntmps,H.gen dep fn.ntmps,0⟩ none⟩:=(by simp only[cD,j,f m (by omega),w,he]);rw[e];exact i m (by omega)
def Tz{E:Env}{f:FuncId}{args:List AV}{y:AV}(h:E.spec f args=some y):ar E f args=some y:=by
 rw[xg];exact⟨0,λm _=>by unfold dv;rw[h]⟩
def WJ{E:Env}{f:FuncId}{args:List AV}{y:AV}(h:ar E f args=some y) : ∃n,dv E (cD E n) f args=some y:=by
 obtain⟨n,c⟩:=xg.1 h;exact⟨n,c n (cG _)⟩
def qq(r:Nat):Nat->List Item->Option (List Item)
 | 0,_=>none
 | n+1,items=>
  match items with
  | .code c :: k=>(match c with
   | .seq a b=>qq r n (.code a :: .code b :: k)
   | .cond _ a b=>(match qq r n (.code a :: k) with
    | some l=>some l
    | none=>qq r n (.code b :: k))
   | .block id b=>qq r n (.code b :: .inBlock id :: k)
   | .scope b=>qq r n (.code b :: .inScope b :: k)
   | .loop b=>(match l9 b with
    | some i=>cond (Nat.beq i r) (some (.inLoop b :: k)) (qq r n (.code b :: .inLoop b :: k))
    | none=>none)
   | .exit id=>(match exitTo id k with
    | some k'=>qq r n k'
    | none=>none)
   | .skip | .label _ | .region _ _ _=>qq r n k
   | _=>none)
  | .inBlock _ :: k | .inScope _ :: k=>qq r n k
  | _=>none
def lP(r:Nat):Nat->List Item->Option (List Item)
 | 0,_=>none
 | n+1,items=>
  match items with
  | .code c :: k=>(match c with
   | .seq a b=>lP r n (.code a :: .code b :: k)
   | .cond _ a b=>(match lP r n (.code a :: k) with
    | some l=>some l
    | none=>lP r n (.code b :: k))
   | .block id b=>lP r n (.code b :: .inBlock id :: k)
   | .scope b=>lP r n (.code b :: .inScope b :: k)
   | .loop b=>lP r n (.code b :: .inLoop b :: k)
   | .exit id=>(match exitTo id k with
    | some k'=>lP r n k'
    | none=>none)
   | .rangeFunc _ _ a b=>cond (Nat.beq (aa6 a b) r) (some items) (lP r n k)
   | .skip | .label _ | .region _ _ _=>lP r n k
   | _=>none)
  | .inBlock _ :: k | .inScope _ :: k=>lP r n k
  | _=>none
def rfA:List Item->Code
 | .code (.rangeFunc _ _ a _) :: _=>a
 | _ => .skip
def rfB:List Item->Code
 | .code (.rangeFunc _ _ _ b) :: _=>b
 | _ => .skip
def rfK:List Item->List Item
 | _ :: k=>k
 | []=>[]
def QC:List Item->List Item
 | .inLoop b :: k => .code b :: .inLoop b :: k
 | l=>l
def DU{E:Env}{fn:Func}{rd:Option Ref}{dep:Nat}{c:List Item}{l:List (Nat × AV)}{H:aa}{Q:AV->aa->Prop}(h : ∀g,vo E fn rd dep (QC c) (OE g l) H Q):X6 E fn rd dep c l H Q:=by
 refine⟨λg=>?_⟩;have:=h g;unfold QC at this;split at this;·exact TO this
 exact this
def oi(x:AV):Option (Option Int):=match uo x with
 | some n=>some (some n)
 | none=>none
end
section
def Uj(pc c:FuncId->List AV->Option AV):Prop :=∀f d y,pc f d=some y->c f d=some y
def XK(tc c:uY->List AV->aa->cR):Prop :=∀f d H y,tc f d H=some y->c f d H=some y
def PM{E:Env}{pc c:FuncId->List AV->Option AV}(hp:Uj pc c){g:cV}{r:Ref}{f:Option AV}{args:List AV}{z:AV × List bj}(h:k9 E pc g r f args=some z):k9 E c g r f args=some z:=by
 unfold k9 at h ⊢;split at h
 ·split at h;·cases h
  rename_i e;rw[if_neg e];split at h
  ·rename_i j i;split at h;·rename_i y d;rw[hp _ _ _ d];exact h
   cases h
  cases h
 cases h
def V8{E:Env}{pc c:FuncId->List AV->Option AV}{tc g:uY->List AV->aa->cR}(hp:Uj pc c)(j:XK tc g){H:aa}{r:Ref}{f:Option AV}{args:List AV} :
 (k9 E pc H.get r f args=none ->∀z,nn E pc tc H r f args=some z->nn E c g H r f args=some z/\k9 E c H.get r f args=none):=by
 intro d z h;unfold k9 at d ⊢;unfold nn at h ⊢;split at h
 ·rename_i m first captured
  dsimp only at d ⊢;split at h;·rename_i e;rw[if_pos e,if_pos e];exact⟨j _ _ _ _ h,rfl⟩
  rename_i e;rw[if_neg e]at d;rw[if_neg e,if_neg e];split at h
  ·rename_i n l;try rw[l]at d
   dsimp only at d ⊢;simp only[bI]at h;obtain⟨y,i,h⟩:=h;rw[i]at d;rw[hp _ _ _ i];exact⟨by rw[Option.map_some,h],d⟩
  cases h
 ·exact⟨j _ _ _ _ h,rfl⟩
 cases h
def N3{E:Env}{pc d:FuncId->List AV->Option AV}{tc j:uY->List AV->aa->cR}(hp:Uj pc d)(G:XK tc j){dep:Nat}{u:Bool}{tm:List AV}{H:aa}{o:Oper}{z:AV × aa}
 (h:oR E pc tc dep u tm H o=some z):oR E d j dep u tm H o=some z:=by
 by_cases A : ∃c f args,o.op = .call c/\c.args.toList.mapM (aP tm)=some args/\c.callee = .value f
 ·obtain⟨c,f,args,m,v,q⟩:=A;unfold oR cQ evalW at h ⊢;simp only[m,v,q]at h ⊢;cases i:Fz E.rR u f with
  | some t=>
   rw[i]at h;dsimp only at h ⊢;cases D:Ig E.P H.get t args with
   | some p=>rw[D]at h;exact h
   | none=>
    rw[D]at h;dsimp only at h ⊢;split at h;·cases h
    rename_i hd;rw[if_neg hd];have w : ∃g,f = .func g:=by unfold Fz at i;split at i<;>simp_all
    obtain⟨g,rfl⟩:=w;simp only[aP,nn]at h ⊢;by_cases F:E.mode g=2
    ·rw[if_pos F]at h ⊢;cases l:tc (.fn g) ([]++args++[]) H with
     | none=>rw[l]at h;unfold sS at h;split at h<;>(try split at h)<;>simp_all
     | some J=>rw[l]at h;rw[G _ _ _ _ l];exact h
    rw[if_neg F]at h ⊢;cases C:([]++args++[]:List AV).mapM (view H.get depth) with
    | none=>rw[C]at h;exact h
    | some xs=>
     rw[C]at h;dsimp only at h ⊢;cases B:pc g xs with
     | none=>rw[B]at h;unfold sS at h;split at h<;>(try split at h)<;>simp_all
     | some y=>rw[B]at h;rw[hp _ _ _ B];exact h
  | none=>
  rw[i]at h;dsimp only at h ⊢;cases n:k9 E pc H.get ⟨dep,o.dst.getD 0,H.gen dep (o.dst.getD 0),0⟩ (aP tm f) args with
  | some p=>rw[n]at h;rw[PM hp n];exact h
  | none=>
   rw[n]at h;simp only[AG]at h;split at h;·cases h
   rename_i hd;cases l:nn E pc tc H ⟨dep,o.dst.getD 0,H.gen dep (o.dst.getD 0),0⟩ (aP tm f) args with
   | none=>
    rw[l]at h;unfold sS at h;split at h;·rename_i e;cases e
    cases h
   | some J=>obtain⟨I,K⟩:=V8 hp G n _ l;rw[K,I];rw[l]at h;simp only[AG,if_neg hd];exact h
 have:oR E pc tc dep u tm H o=oR E d j dep u tm H o:=by
  have n:cQ E pc u H.get tm ⟨dep,o.dst.getD 0,H.gen dep (o.dst.getD 0),0⟩ o=cQ E d u H.get tm ⟨dep,o.dst.getD 0,H.gen dep (o.dst.getD 0),0⟩ o:=by
   cases m:o.op<;>simp only[cQ,m];case makeMap a b=>cases b<;>rfl
   rename_i c;cases v:c.args.toList.mapM (aP tm) with
   | none=>rfl
   | some args=>
    cases q:c.callee with| value f=>exact(A ⟨c,f,args,m,v,q⟩).elim| invoke _ _=>rfl| builtin b=>rfl
  have l:evalW E pc tc H tm ⟨dep,o.dst.getD 0,H.gen dep (o.dst.getD 0),0⟩ o=evalW E d j H tm ⟨dep,o.dst.getD 0,H.gen dep (o.dst.getD 0),0⟩ o:=by
   cases m:o.op<;>simp only[evalW,m];rename_i c;cases v:c.args.toList.mapM (aP tm) with| none=>rfl| some args=>
    cases q:c.callee with
    | value f=>exact(A ⟨c,f,args,m,v,q⟩).elim
    | invoke _ _=>rfl
    | builtin b=>rfl
  unfold oR;rw[n,l]
 rw[<-this];exact h
def Qo{E:Env}{pc c:FuncId->List AV->Option AV}{tc d:uY->List AV->aa->cR}(hp:Uj pc c)(e:XK tc d){dep:Nat}{u:Bool}{tm:List AV}{H:aa}{o:Oper}{z:AV × aa}
 (h:yT E pc tc dep u tm H o=some z):yT E c d dep u tm H o=some z:=by
 unfold yT at h ⊢;cases hd:FK E u H tm ⟨dep,o.dst.getD 0,H.gen dep (o.dst.getD 0),0⟩ o with
 | some w=>rw[hd]at h;exact h
 | none=>rw[hd]at h;exact N3 hp e h
def MZ{E:Env}{pc d:FuncId->List AV->Option AV}{tc e:uY->List AV->aa->cR}(hp:Uj pc d)(j:XK tc e){nt dep:Nat}{u:Bool}{ops:Array Oper} : ∀ {l:List Oper} {st st':St},
 oa E pc tc nt dep u ops l st=some st'->oa E d e nt dep u ops l st=some st':=by
 intro l;induction l with
 | nil=>intro st st' h;exact h
 | cons o l i=>
  intro st st' h;unfold oa at h ⊢;cases c:Am E pc tc nt dep u ops o st with
  | none=>rw[c]at h;cases h
  | some f=>
   rw[c]at h;have:Am E d e nt dep u ops o st=some f:=by
    rw[LP]at c ⊢;cases hw:wanted ops st.tm o with
    | none=>rw[hw]at c;cases c
    | some b=>
     rw[hw]at c;cases b with
     | false=>exact c
     | true=>
      dsimp only at c ⊢;cases g:yT E pc tc dep u st.tm st.hp o with
      | none=>rw[g]at c;cases c
      | some z=>rw[g]at c;rw[Qo hp j g];exact c
   rw[this];exact i h
def FM{E:Env}{run e:Option Ref->Nat->Nat->List Item->St->Option St}(l : ∀rd nt dep d st st',run rd nt dep d st=some st'->e rd nt dep d st=some st'){dep:Nat}{f:FuncId}{args:List AV}{H:aa}{z:AV × aa}
 (h:wu E run dep f args H=some z):wu E e dep f args H=some z:=by
 unfold wu at h ⊢;split at h
 ·rename_i m;rw[if_pos m];cases i:E.P.funcs[f]? with
  | none=>rw[i]at h;cases h
  | some fn=>
   rw[i]at h;dsimp only at h ⊢;cases j:fn.body with
   | none=>rw[j]at h;cases h
   | some c=>
    rw[j]at h;dsimp only at h ⊢;split at h
    ·rename_i n;rw[if_pos n];cases g:run none fn.ntmps dep [.code c] ⟨args,H⟩ with
     | none=>rw[g]at h;cases h
     | some st=>rw[g]at h;rw[l _ _ _ _ _ _ g];exact h
    cases h
 cases h
def Ch{E:Env}{run d:Option Ref->Nat->Nat->List Item->St->Option St}(j : ∀rd nt dep c st st',run rd nt dep c st=some st'->d rd nt dep c st=some st'):Uj (dv E run) (dv E d):=by
 intro f i y h;unfold dv at h ⊢;cases g:E.spec f i with
 | some s=>rw[g]at h;exact h
 | none=>
  rw[g]at h;dsimp only at h ⊢;cases e:wu E run 0 f i [] with
  | none=>rw[e]at h;cases h
  | some z=>rw[e]at h;rw[FM j e];exact h
def Di{E:Env}{run d:Option Ref->Nat->Nat->List Item->St->Option St}(g : ∀rd nt dep c st st',run rd nt dep c st=some st'->d rd nt dep c st=some st')(dep:Nat):XK (eF E run dep) (eF E d dep):=by
 intro f j H y h;unfold eF at h ⊢;cases f with
 | fn f=>
  dsimp only at h ⊢;cases i:E.thrSpec f j H with
  | some s=>rw[i]at h;exact h
  | none=>
  rw[i]at h;dsimp only at h ⊢;split at h;·rename_i m;rw[if_pos m];exact FM g h
  cases h
 | yld r=>
  dsimp only at h ⊢;unfold BA at h ⊢;split at h
  ·rename_i f nt ps assign body tm n;split at h
   ·rename_i l;rw[if_pos l];cases e:run (some r) nt (dep+1) [.code assign,.beginRound,.code body] ⟨vT tm ps j,H⟩ with
    | none=>rw[e]at h;cases h
    | some st=>rw[e]at h;rw[g _ _ _ _ _ _ e];exact h
   cases h
  cases h
def S4{E:Env} : ∀(n:Nat)(rd:Option Ref)(nt dep:Nat)(d:List Item)(st st':St),cD E n rd nt dep d st=some st'->cD E (n+1) rd nt dep d st=some st':=by
 intro n;induction n with
 | zero=>intro rd nt dep d st st' h;simp[cD]at h
 | succ n e=>
  intro rd nt dep d st st' h;unfold cD at h ⊢;split at h;·exact h
  ·split at h;·exact h
   rename_i r;split at h;·exact e _ _ _ _ _ _ h
   cases h
  ·split at h;all_goals try exact h
   all_goals try exact e _ _ _ _ _ _ h
   ·rename_i c a b;split at h;·exact e _ _ _ _ _ _ h
    ·exact e _ _ _ _ _ _ h
    cases h
   ·split at h;·exact e _ _ _ _ _ _ h
    exact h
   ·rename_i ops u;cases f:oa E (dv E (cD E n)) (eF E (cD E n) dep) nt dep u ops ops.toList st with
    | none=>rw[f]at h;cases h
    | some g=>
     rw[f]at h;rw[MZ (Ch e) (Di e dep) f];dsimp only at h ⊢;split at h;·cases h
     rename_i hd;rw[if_neg hd];exact e _ _ _ _ _ _ h
   split at h
   ·split at h
    ·rename_i x H' f;rw[Di e dep _ _ _ _ f];dsimp only;split at h;·exact e _ _ _ _ _ _ h
     ·exact h
     ·split at h;·exact e _ _ _ _ _ _ h
      cases h
     cases h
    cases h
   cases h
  all_goals try exact e _ _ _ _ _ _ h
  all_goals cases h
def Za{E:Env}{n m:Nat}(e:n<=m){rd:Option Ref}{nt dep:Nat}{c:List Item}{st st':St}(h:cD E n rd nt dep c st=some st'):cD E m rd nt dep c st=some st':=by
 induction e with| refl=>exact h| step _ d=>exact S4 _ _ _ _ _ _ _ d
def Nw{E:Env}{n:Nat}{f:FuncId}{args:List AV}{y:AV}(h:dv E (cD E n) f args=some y):ar E f args=some y:=
 xg.2 ⟨n,λ_ c=>Ch (λ_ _ _ _ _ _ h=>Za c h) _ _ _ h⟩
end
section
abbrev aI(n:Int):AV := .v (.int .i64 n)
abbrev aB(b:Bool):AV := .v (.bool b)
def a8(n:UInt8):AV := .v (.int .u8 (n.toNat:Int))
def bR(n:UInt32):AV := .v (.int .u32 (n.toNat:Int))
abbrev aS(s:ByteArray):AV := .v (.string s)
abbrev aO:AV := .v (.slice none 0 0)
def adS{q:jx}{K:AV->Prop}{m:Mk K}{v:AV}(c:q=some (v,[]))(h:K v):dL q K m:=⟨v,c,h⟩
def wq{w:cR}{K:AV->aa->Prop}{m:Mk K}{v:AV}{H:aa}(c:w=some (v,H))(h:K v H):iE w K m:=⟨v,H,c,h⟩
@[simp] def ahr(v:AV)(K:AV->Prop)(m:Mk K):dL (some (v,[])) K m↔K v:=
 ⟨λ⟨⟨w,hw,h⟩⟩=>by cases hw;exact h,λh=>⟨v,rfl,h⟩⟩
@[simp] def ajy(c:Prop)[Decidable c](q:jx)(K:AV->Prop)(m:Mk K):dL (if c then q else none) K m↔c/\dL q K m:=by
 by_cases d:c;·simp[d]
 simp only[if_neg d,d,false_and,iff_false];rintro⟨v,e,_⟩;cases e
@[simp] def ahq(v:AV)(H:aa)(K:AV->aa->Prop)(m:Mk K):iE (some (v,H)) K m↔K v H:=
 ⟨λ⟨⟨w,_,hw,h⟩⟩=>by cases hw;exact h,λh=>⟨v,H,rfl,h⟩⟩
@[simp] def ajx(c:Prop)[Decidable c](q:cR)(K:AV->aa->Prop)(m:Mk K):iE (if c then q else none) K m↔c/\iE q K m:=by
 by_cases d:c;·simp[d]
 simp only[if_neg d,d,false_and,iff_false];rintro⟨v,_,e,_⟩;cases e
def R3{x:Option AV}{A B:Prop}{m:Mk (A,B)}:br x A B m↔brP x A B:=⟨λh=>h.h,λh=>⟨h⟩⟩
@[simp] def ai8(A B:Prop)(m:Mk (A,B)):br (some (aB true)) A B m↔A:=R3
@[simp] def ahA(A B:Prop)(m:Mk (A,B)):br (some (aB false)) A B m↔B:=R3
def si{b:Bool}{A B:Prop}{m:Mk (A,B)}(c:b=true->A)(d:b=false->B):br (some (aB b)) A B m:=by
 cases b;·exact⟨d rfl⟩
 exact⟨c rfl⟩
@[simp] def ahe(q:jx)(K:AV->Prop)(m:Mk (q,K)):gQ (aB true) true q K m↔dL q K:=⟨λh=>h.h,λh=>⟨h⟩⟩
@[simp] def ahh(q:jx)(K:AV->Prop)(m:Mk (q,K)):gQ (aB false) false q K m↔dL q K:=⟨λh=>h.h,λh=>⟨h⟩⟩
@[simp] def ahf(q:jx)(K:AV->Prop)(m:Mk (q,K)):gQ (aB true) false q K m↔K AV.undef:=⟨λh=>h.h,λh=>⟨h⟩⟩
@[simp] def ahg(q:jx)(K:AV->Prop)(m:Mk (q,K)):gQ (aB false) true q K m↔K AV.undef:=⟨λh=>h.h,λh=>⟨h⟩⟩
@[simp] def ajU(w:Bool)(q:jx)(K:AV->Prop)(m:Mk (q,K)):gQ AV.undef w q K m↔K AV.undef:=⟨λh=>h.h,λh=>⟨h⟩⟩
@[simp] def aha(H:aa)(q:cR)(K:AV->aa->Prop)(m:Mk (q,K)):gW (aB true) true H q K m↔iE q K:=⟨λh=>h.h,λh=>⟨h⟩⟩
@[simp] def ahd(H:aa)(q:cR)(K:AV->aa->Prop)(m:Mk (q,K)):gW (aB false) false H q K m↔iE q K:=⟨λh=>h.h,λh=>⟨h⟩⟩
@[simp] def ahb(H:aa)(q:cR)(K:AV->aa->Prop)(m:Mk (q,K)):gW (aB true) false H q K m↔K AV.undef H:=⟨λh=>h.h,λh=>⟨h⟩⟩
@[simp] def ahc(H:aa)(q:cR)(K:AV->aa->Prop)(m:Mk (q,K)):gW (aB false) true H q K m↔K AV.undef H:=⟨λh=>h.h,λh=>⟨h⟩⟩
@[simp] def ajT(w:Bool)(H:aa)(q:cR)(K:AV->aa->Prop)(m:Mk (q,K)):gW AV.undef w H q K m↔K AV.undef H:=⟨λh=>h.h,λh=>⟨h⟩⟩
@[simp] def aeE(v:AV):iL (some v)=some (v,[]):=id rfl
@[simp] def ae2(H:aa)(r:Ref)(v:AV)(bs:List bj):lY H r (some (v,bs))=some (v,keyed r 0 bs H):=id rfl
@[simp] def EV(H:aa)(r:Ref):lY H r none=none:=id rfl
@[simp] def adn(r:Ref)(k:Nat)(H:aa):keyed r k [] H=H:=id rfl
@[simp] def ado(r:Ref)(k:Nat)(b:bj)(bs:List bj)(H:aa):keyed r k (b :: bs) H=keyed r (k+1) bs (({ r with k:=k},some b) :: H):=id rfl
@[simp] def agH(c:Bool)(x:AV × aa)(b:cR):EU c (some x) b=some x:=id rfl
@[simp] def Ip(b:cR):EU true none b=b:=id rfl
@[simp] def ac7(a b:Option AV):ue (some (aB true)) a b=iL a:=id rfl
@[simp] def abd(a b:Option AV):ue (some (aB false)) a b=iL b:=id rfl
@[simp] def ajp(k:IntKind)(n:Int):oi (.v (.int k n))=some (some n):=id rfl
@[simp] def afr(cs:List AV):(AV.agg cs).cells=cs:=id rfl
@[simp] def aiZ(x:Value):(AV.v x).cells=[.v x]:=id rfl
@[simp] def ai0(x:UInt8):(a8 x).cells=[a8 x]:=id rfl
@[simp] def ahx(x:UInt32):(bR x).cells=[bR x]:=id rfl
@[simp] def afp(z:Nat)(es:List AV)(c:Option Nat):(AV.bg z es c).cells=[.bg z es c]:=id rfl
@[simp] def afo(r:Ref)(o n:Nat)(c:Option Nat):(AV.bk r o n c).cells=[.bk r o n c]:=id rfl
@[simp] def ahw(f:Fn)(a b:List AV):(AV.fn f a b).cells=[.fn f a b]:=id rfl
@[simp] def aiE(k:IntKind)(n:Int):(AV.v (.int k n)).one=true:=id rfl
@[simp] def agI(b:Bool):(AV.v (.bool b)).one=true:=id rfl
@[simp] def aiC:aO.one=true:=id rfl
@[simp] def ajO(x:UInt8):(a8 x).one=true:=id rfl
@[simp] def ajo(x:UInt32):(bR x).one=true:=id rfl
@[simp] def aiD(z:Nat)(es:List AV)(c:Option Nat):(AV.bg z es c).one=true:=id rfl
@[simp] def aiB(r:Ref)(o n:Nat)(c:Option Nat):(AV.bk r o n c).one=true:=id rfl
section
variable(P:Program)(t:TypeId)(xo yo:Operand)(k:IntKind)(a b:Int)
@[simp] theorem Wa:bC P .lss t xo yo (some (.v (.int k a))) (some (.v (.int k b)))=some (aB (decide (a<b)),[]):=by cases k<;>rfl
@[simp] theorem Wb:bC P .leq t xo yo (some (.v (.int k a))) (some (.v (.int k b)))=some (aB (decide (a<=b)),[]):=by cases k<;>rfl
@[simp] theorem Wc:bC P .gtr t xo yo (some (.v (.int k a))) (some (.v (.int k b)))=some (aB (decide (b<a)),[]):=by cases k<;>rfl
@[simp] theorem Wd:bC P .geq t xo yo (some (.v (.int k a))) (some (.v (.int k b)))=some (aB (decide (b<=a)),[]):=by cases k<;>rfl
@[simp] theorem We:bC P .eql t xo yo (some (.v (.int k a))) (some (.v (.int k b)))=some (aB (decide (a=b)),[]):=by
 have:(a == b)=decide (a=b):=by by_cases h:a=b<;>simp[h]
 rw[<-this];cases k<;>rfl
@[simp] theorem agB:bC P .neq t xo yo (some (.v (.int k a))) (some (.v (.int k b)))=some (aB (!decide (a=b)),[]):=by
 have:(a != b) = !decide (a=b):=by by_cases h:a=b<;>simp[h]
 rw[<-this];cases k<;>rfl
@[simp] theorem Wf:bC P .add t xo yo (some (.v (.int k a))) (some (.v (.int k b)))=some (.v (.int k (k.wrap (a+b))),[]):=by cases k<;>rfl
@[simp] theorem agA:bC P .sub t xo yo (some (.v (.int k a))) (some (.v (.int k b)))=some (.v (.int k (k.wrap (a - b))),[]):=by cases k<;>rfl
@[simp] theorem agC:bC P .mul t xo yo (some (.v (.int k a))) (some (.v (.int k b)))=some (.v (.int k (k.wrap (a * b))),[]):=by cases k<;>rfl
theorem lX(d:b≠0):bC P .quo t xo yo (some (.v (.int k a))) (some (.v (.int k b)))=some (.v (.int k (k.wrap (a.tdiv b))),[]):=by
 have h:Op.intDiv .quo k a b=pure (.int k (k.wrap (a.tdiv b))):=by unfold Op.intDiv;rw[if_neg d]
 have c:xc P .quo t xo yo (.int k a) (.int k b)=some (.int k (k.wrap (a.tdiv b))):=by
  have:xc P .quo t xo yo (.int k a) (.int k b)=bE P (Op.intDiv .quo k a b):=by cases k<;>rfl
  rw[this,h];rfl
 simp only[bC,F8,jW,kH,c,qO,AB,eW,iQe,eD,iO,scalar,if_true,iL,Option.map_some]
theorem gE(d:b≠0):bC P .rem t xo yo (some (.v (.int k a))) (some (.v (.int k b)))=some (.v (.int k (a.tmod b)),[]):=by
 have h:Op.intDiv .rem k a b=pure (.int k (a.tmod b)):=by unfold Op.intDiv;rw[if_neg d]
 have c:xc P .rem t xo yo (.int k a) (.int k b)=some (.int k (a.tmod b)):=by
  have:xc P .rem t xo yo (.int k a) (.int k b)=bE P (Op.intDiv .rem k a b):=by cases k<;>rfl
  rw[this,h];rfl
 simp only[bC,F8,jW,kH,c,qO,AB,eW,iQe,eD,iO,scalar,if_true,iL,Option.map_some]
theorem yM{c:IntKind}(e:0<=b):bC P .shl t xo yo (some (.v (.int k a))) (some (.v (.int c b)))=some (.v (.int k (k.wrap (a * 2 ^ min b.toNat k.bits))),[]):=by
 have h:Op.shift .shl k a c b=pure (.int k (k.wrap (a * 2 ^ min b.toNat k.bits))):=by unfold Op.shift;rw[if_neg (by omega)]
 have d:xc P .shl t xo yo (.int k a) (.int c b)=some (.int k (k.wrap (a * 2 ^ min b.toNat k.bits))):=by
  have:xc P .shl t xo yo (.int k a) (.int c b)=bE P (Op.shift .shl k a c b):=rfl;rw[this,h];rfl
 simp only[bC,F8,jW,kH,d,qO,AB,eW,iQe,eD,iO,scalar,if_true,iL,Option.map_some]
theorem cK{c:IntKind}(e:0<=b):bC P .shr t xo yo (some (.v (.int k a))) (some (.v (.int c b)))=some (.v (.int k (a.fdiv (2 ^ min b.toNat k.bits))),[]):=by
 have h:Op.shift .shr k a c b=pure (.int k (a.fdiv (2 ^ min b.toNat k.bits))):=by unfold Op.shift;rw[if_neg (by omega)]
 have d:xc P .shr t xo yo (.int k a) (.int c b)=some (.int k (a.fdiv (2 ^ min b.toNat k.bits))):=by
  have:xc P .shr t xo yo (.int k a) (.int c b)=bE P (Op.shift .shr k a c b):=rfl;rw[this,h];rfl
 simp only[bC,F8,jW,kH,d,qO,AB,eW,iQe,eD,iO,scalar,if_true,iL,Option.map_some]
@[simp] theorem aiu(b:Bool):Zl P .not (some (aB b))=some (aB (!b),[]):=id rfl
def u8(n:Int):UInt8:=UInt8.ofBitVec (BitVec.ofInt 8 n)
def u32(n:Int):UInt32:=UInt32.ofBitVec (BitVec.ofInt 32 n)
@[simp] theorem aaR(n:Int):IntKind.u8.wrap n=((u8 n).toNat:Int):=by
 unfold u8;rw[IntKind.wrap_u8,iQO,GP];omega
@[simp] theorem Gc(n:Int):IntKind.u32.wrap n=((u32 n).toNat:Int):=by
 unfold u32;rw[IntKind.wrap_u32,iQG,GP];omega
theorem qU(n:Int):(u8 n).toNat=(n % 256).toNat:=by
 unfold u8;rw[iQO,GP];rfl
theorem vP(n:Int):(u32 n).toNat=(n % 4294967296).toNat:=by
 unfold u32;rw[iQG,GP];rfl
@[simp] theorem ajg(x:UInt8):u8 (x.toNat:Int)=x:=by apply z9.1;rw[qU];have:=x.toNat_lt;omega
@[simp] theorem Ym(x:UInt32):u32 (x.toNat:Int)=x:=by apply OJ.1;rw[vP];have:=x.toNat_lt;omega
@[simp] theorem UU(x:UInt8):u32 (x.toNat:Int)=x.toUInt32:=by apply OJ.1;rw[vP,UInt8.toNat_toUInt32];have:=x.toNat_lt;omega
@[simp] theorem afG(x:UInt32):u8 (x.toNat:Int)=x.toUInt8:=by apply z9.1;rw[qU,UInt32.toNat_toUInt8];omega
@[simp] theorem ajh(n:Nat):u8 (no_index (OfNat.ofNat n))=OfNat.ofNat n:=by
 apply z9.1;rw[qU,show(OfNat.ofNat n:UInt8)=UInt8.ofNat n from rfl,UInt8.toNat_ofNat',show(OfNat.ofNat n:Int)=(n:Int) from rfl];omega
@[simp] theorem ag8(x:UInt8):IntKind.i64.wrap (x.toNat:Int)=x.toNat:=by have:=x.toNat_lt;exact iQa _ (by omega)
@[simp] theorem adD(x:UInt32):IntKind.i64.wrap (x.toNat:Int)=x.toNat:=by have:=x.toNat_lt;exact iQa _ (by omega)
theorem ad5(v:BitVec 32):IntKind.u32.wrap (v.toNat:Int)=((UInt32.ofBitVec v).toNat:Int):=by
 rw[Gc];unfold u32;congr 3;apply BitVec.eq_of_toNat_eq;rw[GP];have:=v.isLt;omega
theorem ad2(d:BinOp)(f:BitVec 32->BitVec 32->BitVec 32)(g:UInt32->UInt32->UInt32)(e : ∀x y,g x y=UInt32.ofBitVec (f x.toBitVec y.toBitVec))(c : ∀x y:Int,bC P d t xo yo (some (.v (.int .u32 x))) (some (.v (.int .u32 y)))=some (.v (.int .u32 (IntKind.u32.wrap ((f (BitVec.ofInt 32 x) (BitVec.ofInt 32 y)).toNat:Int))),[])) :
 bC P d t xo yo (some (.v (.int .u32 a))) (some (.v (.int .u32 b)))=some (bR (g (u32 a) (u32 b)),[]):=by
 rw[c,ad5,e];rfl
section
variable(x y:UInt8)
@[simp] theorem aeK:bC P .lss t xo yo (some (a8 x)) (some (a8 y))=some (aB (decide (x<y)),[]):=by
 unfold a8;rw[Wa];congr 4;rw[iQH];all_goals exact propext (by omega)
@[simp] theorem aeL:bC P .leq t xo yo (some (a8 x)) (some (a8 y))=some (aB (decide (x<=y)),[]):=by
 unfold a8;rw[Wb];congr 4;rw[iQI];all_goals exact propext (by omega)
@[simp] theorem aeM:bC P .gtr t xo yo (some (a8 x)) (some (a8 y))=some (aB (decide (y<x)),[]):=by
 unfold a8;rw[Wc];congr 4;rw[iQH];all_goals exact propext (by omega)
@[simp] theorem aeN:bC P .geq t xo yo (some (a8 x)) (some (a8 y))=some (aB (decide (y<=x)),[]):=by
 unfold a8;rw[Wd];congr 4;rw[iQI];all_goals exact propext (by omega)
@[simp] theorem aeO:bC P .eql t xo yo (some (a8 x)) (some (a8 y))=some (aB (decide (x=y)),[]):=by
 unfold a8;rw[We];congr 4;rw[<-z9];all_goals exact propext (by omega)
@[simp] theorem aeP:bC P .add t xo yo (some (a8 x)) (some (a8 y))=some (a8 (x+y),[]):=by
 unfold a8;rw[Wf,aaR];congr 5
end
section
variable(x y:UInt32)
@[simp] theorem aeJ:bC P .or t xo yo (some (bR x)) (some (bR y))=some (bR (x ||| y),[]):=by
 unfold bR;rw[ad2 P t xo yo _ _ .or (· ||| ·) (· ||| ·) (λ_ _=>rfl) (λ_ _=>rfl)];simp only[Ym];rfl
end
@[simp] theorem ac1{e:IntKind}(x:UInt32)(d:0<=b/\b<32):bC P .shl t xo yo (some (bR x)) (some (.v (.int e b)))=some (bR (x <<< UInt32.ofNat b.toNat),[]):=by
 unfold bR;rw[yM P t xo yo .u32 _ b d.1,Gc];congr 5;have f:min b.toNat IntKind.u32.bits=b.toNat:=by show min b.toNat 32=_;omega
 have g:=x.toNat_lt;rw[f,vP,KU,UInt32.toNat_ofNat',KN];have c:b.toNat % 2 ^ 32 % 32=b.toNat:=by omega
 rw[c];have:((x.toNat:Int) * 2 ^ b.toNat)=((x.toNat * 2 ^ b.toNat:Nat):Int):=by push_cast;rfl
 rw[this];omega
theorem oJ{P:Program}{t:TypeId}{d:TypeDesc}(h:P.underlying t=some d):bE P (Go.underlying t)=some d:=by
 unfold Go.underlying;rw[bU];show(some P).bind _=_;rw[eD,h];rfl
def intKind(P:Program)(t:TypeId):Option IntKind:=match P.underlying t with | some (.int k)=>some k | _=>none
theorem DQ{P:Program}{t:TypeId}{k:IntKind}(h:intKind P t=some k):P.underlying t=some (.int k):=by
 unfold intKind at h;split at h;·cases h;assumption
 cases h
theorem o5{g:cV}{r:Ref}{src dst:TypeId}{k':IntKind}(c:(P.underlying src).isNone=false)(hd:intKind P dst=some k)(n:Int) :
 bY P g r src dst (some (.v (.int k' n)))=some (.v (.int k (k.wrap n)),[]):=by
 have hd:=DQ hd;obtain⟨d,c⟩ : ∃d,P.underlying src=some d:=by cases h:P.underlying src with | none=>rw[h]at c;cases c | some d=>exact⟨d,rfl⟩
 have:bE P (Go.convert src dst (.int k' n))=some (.int k (k.wrap n)):=by
  unfold Go.convert;rw[bU,oJ c,eD,bU,oJ hd,eD];cases d<;>rfl
 simp only[bY,this,eD,iO,scalar,if_true,iL,Option.map_some]
@[simp] theorem acZ{g:cV}{r:Ref}{src dst:TypeId}(c:(P.underlying src).isNone=false)(hd:intKind P dst=some .u32)(x:UInt8) :
 bY P g r src dst (some (a8 x))=some (bR x.toUInt32,[]):=by
 unfold a8 bR;rw[o5 P .u32 c hd,Gc,UU]
@[simp] theorem aeI{g:cV}{r:Ref}{src dst:TypeId}(c:(P.underlying src).isNone=false)(hd:intKind P dst=some .i64)(x:UInt8) :
 bY P g r src dst (some (a8 x))=some (aI x.toNat,[]):=by
 unfold a8;rw[o5 P .i64 c hd,ag8]
@[simp] theorem ac0{g:cV}{r:Ref}{src dst:TypeId}(c:(P.underlying src).isNone=false)(hd:intKind P dst=some .i64)(x:UInt32) :
 bY P g r src dst (some (bR x))=some (aI x.toNat,[]):=by
 unfold bR;rw[o5 P .i64 c hd,adD]
@[simp] theorem aeH{g:cV}{r:Ref}{src dst:TypeId}{k':IntKind}(c:(P.underlying src).isNone=false)(hd:intKind P dst=some .u8)(n:Int) :
 bY P g r src dst (some (.v (.int k' n)))=some (a8 (u8 n),[]):=by
 unfold a8;rw[o5 P .u8 c hd,aaR]
@[simp] theorem acY{g:cV}{r:Ref}{src dst:TypeId}{k':IntKind}(c:(P.underlying src).isNone=false)(hd:intKind P dst=some .u32)(n:Int) :
 bY P g r src dst (some (.v (.int k' n)))=some (bR (u32 n),[]):=by
 unfold bR;rw[o5 P .u32 c hd,Gc]
@[simp] theorem aeG{g:cV}{r:Ref}{src dst:TypeId}{k':IntKind}(c:(P.underlying src).isNone=false)(hd:intKind P dst=some .i64)(n:Int) :
 bY P g r src dst (some (.v (.int k' n)))=some (aI (IntKind.i64.wrap n),[]):=o5 P .i64 c hd n
end
def au(l:List UInt8):List AV:=l.map a8
@[simp] def fN(l:List UInt8):(au l).length=l.length:=by simp[au]
@[simp] def ai2:au []=[]:=id rfl
def V4(P:Program)(d:Bool)(g:cV)(r:Ref)(t:TypeId)(e:List TypeId)(x:AV)(c : ∀r',x ≠ .mp r'):cb P d g r .len ⟨t :: e⟩ [x]=JB P (some t) x:=by
 unfold cb;cases x<;>first | rfl | (rename_i q;exact(c q rfl).elim)
@[simp] def aiv(P:Program)(d:Bool)(g:cV)(r:Ref)(t:TypeId)(c:List TypeId)(x:AV)(f:(uW x).isSome=true):cb P d g r .len ⟨t :: c⟩ [x]=JB P (some t) x:=by
 refine V4 P d g r t c x λr' e=>?_;subst e;cases f
@[simp] def ae4:uW aO=some 0:=id rfl
@[simp] def ae5(n:Nat)(es:List AV)(c:Option Nat):uW (.bg n es c)=some es.length:=id rfl
@[simp] def ae3(r:Ref)(o n:Nat)(c:Option Nat):uW (.bk r o n c)=some n:=id rfl
@[simp] def acU{P:Program}{t:TypeId}(e:ly P t=none)(d:isStr P t=false)(c:(ca P t).isSome=true)(x:AV):JB P (some t) x=(uW x).map λn=>(aI n,[]):=by
 simp only[JB,e,d,c];rfl
def N4{P:Program}{t:TypeId}{z:Nat}(h:(ca P t).bind (aE P)=some z) : ∃e,ca P t=some e/\aE P e=some z:=by
 simpa [iF] using h
@[simp] def Ii{P:Program}{t:TypeId}{z:Nat}(h:(ca P t).bind (aE P)=some z)(g:cV)(es:List AV)(c:Option Nat)(f:IntKind)(k:Int) :
 bH P g t (some (.bg z es c)) (some (.v (.int f k)))=if 0<=k/\k<es.length then some (.iptr z es k.toNat 0,[]) else none:=by
 obtain⟨e,he,d⟩:=N4 h;simp only[bH,eD,uo,he,d,iQr]
@[simp] def V5{P:Program}{t:TypeId}(h:ca P t=none)(c:((ly P t).bind λp=>aE P p.2).isSome=true)(g:cV)(r:Ref)(i j:Nat)(d:IntKind)(k:Int) :
 bH P g t (some (.ptr r i j)) (some (.v (.int d k)))=if 0<=k/\k<((ly P t).getD (0,0)).1 then some (.ptr r i (j+k.toNat * (aE P ((ly P t).getD (0,0)).2).getD 0),[]) else none:=by
 obtain⟨z,c⟩:=gT.1 c;simp only[iF]at c;obtain⟨⟨n,e⟩,f,c⟩:=c;simp only[bH,eD,uo,h,f,c,cB]
@[simp] def acT{P:Program}{t:TypeId}(c:(eK P t).isSome=true)(d:(aE P t).isSome=true)(g:cV)(z:Nat)(es:List AV)(i j:Nat) :
 ow P g t (some (.iptr z es i j))=iL (bF es i j ((aE P t).getD 0) ((eK P t).getD false)):=by
 obtain⟨a,c⟩:=gT.1 c;obtain⟨n,d⟩:=gT.1 d;simp only[ow,c,d,cB]
def WG(x:Option bj)(i j n:Nat)(c:Bool):jx:=match x with
 | some b=>iL (bF b.es i j n c)
 | none=>none
@[simp] def adl(b:bj)(i j n:Nat)(c:Bool):WG (some b) i j n c=iL (bF b.es i j n c):=id rfl
@[simp] def aeF{P:Program}{t:TypeId}(c:(eK P t).isSome=true)(d:(aE P t).isSome=true)(g:cV)(r:Ref)(i j:Nat) :
 ow P g t (some (.ptr r i j))=WG (g r) i j ((aE P t).getD 0) ((eK P t).getD false):=by
 obtain⟨a,c⟩:=gT.1 c;obtain⟨n,d⟩:=gT.1 d;simp only[ow,c,d,cB];rfl
def PE{es:List AV}{i j n:Nat}{e x:AV}(h:es[i]?=some e)(c:e.cells[j]?=some x):bF es i j n false=some x:=by
 simp only[bF,h,c];rfl
@[simp] def Uq(e:AV)(es:List AV)(j n:Nat):bF (e :: es) 0 j n true=if j+n<=e.cells.length/\0<n then some (.agg ((e.cells.drop j).take n)) else none:=id rfl
@[simp] def Up(e:AV)(es:List AV)(j n:Nat):bF (e :: es) 0 j n false=e.cells[j]?:=id rfl
@[simp] def acN(l:List UInt8)(i n:Nat):bF (au l) i 0 n false=(l[i]?).map a8:=by
 unfold bF au;rw[mr];cases l[i]?<;>rfl
def Sl(z:Nat)(es:List AV)(x:AV):Prop:=(x=aO/\es=[]) \/∃c,x = .bg z es c/\es.length<=c.getD es.length
def Sl.mk(z:Nat)(es:List AV):Sl z es (.bg z es none) := .inr ⟨none,rfl,cG _⟩
def Sl.len{z:Nat}{es:List AV}{x:AV}(h:Sl z es x):uW x=some es.length:=by
 rcases h with ⟨rfl,rfl⟩ | ⟨c,rfl,_⟩<;>rfl
def Sl.bg{z:Nat}{es:List AV}{x:AV}(h:Sl z es x){i:Nat}(hi:i<es.length) : ∃c,x = .bg z es c/\es.length<=c.getD es.length:=by
 rcases h with ⟨rfl,rfl⟩ | h
 ·simp at hi
 exact h
def Sl.view{z:Nat}{es:List AV}{x:AV}(h:Sl z es x)(g:cV)(n:Nat):view g (n+1) x=some x:=by
 rcases h with ⟨rfl,rfl⟩ | ⟨c,rfl,_⟩<;>rfl
def Sl.refs{z:Nat}{es:List AV}{x:AV}(h:Sl z es x)(g:cV)(n:Nat):ah g n x=[]:=by
 rcases h with ⟨rfl,rfl⟩ | ⟨c,rfl,_⟩<;>cases n<;>rfl
def Sl.imp{z:Nat}{es:List AV}{x:AV}(h:Sl z es x)(r:Ref)(n:Nat):ao r n x []=(x,[]):=by
 rcases h with ⟨rfl,rfl⟩ | ⟨c,rfl,_⟩<;>cases n<;>rfl
def Sl.cells{z:Nat}{es:List AV}{x:AV}(h:Sl z es x):x.cells=[x]/\x.one=true:=by
 rcases h with ⟨rfl,_⟩ | ⟨c,rfl,_⟩<;>exact⟨rfl,rfl⟩
@[simp] def ajd(g:cV)(n:Nat)(x:Value):view g (n+1) (.v x)=some (.v x):=id rfl
@[simp] def aje(g:cV)(n:Nat)(x:UInt8):view g (n+1) (a8 x)=some (a8 x):=id rfl
@[simp] def ahM(g:cV)(n:Nat)(x:UInt32):view g (n+1) (bR x)=some (bR x):=id rfl
@[simp] def afA(g:cV)(n z:Nat)(es:List AV)(c:Option Nat):view g (n+1) (.bg z es c)=some (.bg z es c):=id rfl
@[simp] def afB(g:cV)(n:Nat)(cs:List AV):view g (n+1) (.agg cs)=(cs.mapM (view g n)).map .agg:=id rfl
@[simp] def afz(g:cV)(n:Nat)(cs:List AV):view g (n+1) (.tup cs)=(cs.mapM (view g n)).map .tup:=id rfl
@[simp] def aek(g:cV)(n z:Nat)(es:List AV)(i j:Nat):view g (n+1) (.iptr z es i j)=some (.iptr z es i j):=id rfl
def My{g:cV}{r:Ref}{b:bj}(d:g r=some b)(n o l:Nat)(c:Option Nat):view g (n+1) (.bk r o l c)=if b.arr=true/\o+l<=b.es.length then some (.bg b.esz ((b.es.drop o).take l) c) else none:=by
 simp only[view,d]
def aK:depth=8:=Nat.le_antisymm (cG 8) (cG 8)
end
section
@[simp] def aa.cL(r q:Ref)(b:Option bj)(H:aa):aa.get ((r,b) :: H) q=if r=q then b else aa.get H q:=id rfl
@[simp] def aa.get_nil(q:Ref):aa.get [] q=none:=id rfl
attribute [simp] aa.ab
@[simp] def aiw(P:Program)(r:Ref)(e:TypeId)(x:AV)(c:0<(aE P e).getD 0):Lx P r e (some x)=if some x.cells.length=aE P e/\x.cells.all AV.one=true then some (.ptr r 0 0,[⟨(aE P e).getD 0,[x],false,false⟩]) else none:=by
 unfold Lx;cases h:aE P e with
 | none=>simp
 | some n=>rw[h]at c;simp only[cB]at c;simp[c]
def Fr(H:aa):Prop :=∀d t g k,H.gen d t<=g->H.get ⟨d,t,g,k⟩=none
def Fr.nil:Fr []:=λ_ _ _ _ _=>rfl
def Fr.keyed{H:aa}(h:Fr H)(bs:List bj)(d t:Nat):Fr (Ab.keyed ⟨d,t,H.gen d t,0⟩ 0 bs H):=by
 intro i t' g k c;rw[aa.mR]at c;rw[aa.BH];by_cases f:bs=[];·subst f;rw[if_neg (by simp)]at c;simp[h _ _ _ _ c]
 by_cases hd:i=d/\t'=t;·obtain⟨rfl,rfl⟩:=hd;rw[if_pos ⟨rfl,rfl,f⟩]at c;dsimp only at c ⊢;rw[if_neg (by intro e;have:=e.2.2.1;omega)];exact h _ _ _ _ (by omega)
 rw[if_neg (by intro e;exact hd ⟨e.1,e.2.1⟩)]at c;dsimp only at c ⊢;rw[if_neg (by intro e;exact hd ⟨e.1,e.2.1⟩)];exact h _ _ _ _ c
def Fr.put{H:aa}(h:Fr H){r:Ref}(b:Option bj)(f:(H.get r).isSome=true):Fr (H.put r b):=by
 intro d t g k c;rw[aa.ej H r b f]at c;rw[aa.ab];split;·rename_i e;subst e;rw[h _ _ _ _ c]at f;cases f
 exact h _ _ _ _ c
def Fr.cons{H:aa}(h:Fr H)(d t:Nat)(b:Option bj):Fr ((⟨d,t,H.gen d t,0⟩,b) :: H):=by
 intro l t' g k c;simp only[aa.gen]at c;rw[aa.cL];split at c;·rename_i e;obtain⟨rfl,rfl⟩:=e;rw[if_neg (by intro e;injection e;omega)];exact h _ _ _ _ (by omega)
 rename_i e;rw[if_neg (by intro i;injection i with f j;exact e ⟨f,j⟩)];exact h _ _ _ _ c
def qA{H:aa}(c:Fr H){q:Ref}(h:(H.get q).isSome=true)(d t k:Nat):(⟨d,t,H.gen d t,k⟩:Ref)≠q:=by
 intro e;subst e;rw[c _ _ _ _ (cG _)]at h;cases h
def X5(P:Program)(t z by':Nat):Bool:=match ca P t with
 | some e=>aE P e == some z&&gP P e == some by'&&(match eu P e with | some zz=>zz.cells.length == z&&zz.cells.all AV.one | none=>false)&&z != 0&&by' != 0
 | none=>false
def I7(P:Program)(t:TypeId):Bool:=(P.underlying t).isSome && !isInt P t
def gJ{P:Program}{t z by':Nat}(h:X5 P t z by'=true) : ∃e zz,ca P t=some e/\aE P e=some z/\gP P e=some by'/\eu P e=some zz/\zz.cells.length=z/\zz.cells.all AV.one=true/\z≠0/\by'≠0:=by
 unfold X5 at h;split at h
 ·rename_i e d;simp only[bo,iQl,bne_iff_ne]at h;obtain⟨⟨⟨⟨i,l⟩,c⟩,g⟩,j⟩:=h;split at c;·rename_i zz f;simp only[bo,iQl]at c;exact⟨e,zz,d,i,l,f,c.1,c.2,g,j⟩
  cases c
 cases h
def Sa(g:cV)(z:Nat)(new:List AV)(x:AV):Prop:=(x=aO/\new=[])\/(isNum x=false/\x≠aO/\cy g x=some (z,new))
def Sa.mK{P:Program}{t z by':Nat}(h:X5 P t z by'=true){e:TypeId}(j:ca P t=some e){g:cV}{new:List AV}{x:AV}(c:Sa g z new x):mK P g e x=some (z,new):=by
 obtain⟨v,zz,f,l,p,n,q,m,A,w⟩:=gJ h;rw[j]at f;cases f;rcases c with ⟨rfl,rfl⟩ | ⟨i,d,c⟩
 ·simp only[Ab.mK,l,Option.map_some]
 unfold Ab.mK;split;·exact(d rfl).elim
 ·simp[isNum]at i
 exact c
def Sa.num{g:cV}{z:Nat}{new:List AV}{x:AV}(c:Sa g z new x):isNum x=false:=by
 rcases c with ⟨rfl,_⟩ | ⟨d,_⟩
 ·rfl
 exact d
def Sl.Jh{z:Nat}{es:List AV}{x:AV}(h:Sl z es x)(g:cV):Sa g z es x:=by
 rcases h with ⟨rfl,rfl⟩ | ⟨c,rfl,_⟩
 ·exact .inl ⟨rfl,rfl⟩
 exact .inr ⟨rfl,(by intro e;cases e),rfl⟩
def Ej(z:Nat)(es:List AV)(H:aa)(x:AV):Prop:=(x=aO/\es=[]) \/∃r,x = .bk r 0 es.length none/\H.get r=some ⟨z,es,true,false⟩
def Gj(z:Nat)(H:aa):Ej z [] H aO := .inl ⟨rfl,rfl⟩
def Ej.len{z:Nat}{es:List AV}{H:aa}{x:AV}(h:Ej z es H x):uW x=some es.length:=by
 rcases h with ⟨rfl,rfl⟩ | ⟨r,rfl,_⟩<;>rfl
def Ej.view{z:Nat}{es:List AV}{H:aa}{x:AV}(h:Ej z es H x)(n:Nat) : ∃y,view H.get (n+1) x=some y/\Sl z es y:=by
 rcases h with ⟨rfl,rfl⟩ | ⟨r,rfl,c⟩
 ·exact⟨aO,rfl,.inl ⟨rfl,rfl⟩⟩
 refine⟨.bg z es none,?_,Sl.mk z es⟩;rw[My c];simp
def Ej.Jh{z:Nat}{es:List AV}{H:aa}{x:AV}(h:Ej z es H x):Sa H.get z es x:=by
 rcases h with ⟨rfl,rfl⟩ | ⟨r,rfl,c⟩
 ·exact .inl ⟨rfl,rfl⟩
 refine .inr ⟨rfl,(by intro e;cases e),?_⟩;simp[cy,c]
def AV.at?:AV->Option Ref
 | .bk r _ _ _=>some r
 | .ptr r _ _=>some r
 | _=>none
def aav{P:Program}{t t' z by':Nat}(O:X5 P t z by'=true)(p:I7 P t'=true){H:aa}{r:Ref}{es new:List AV}{s x:AV}(T:Ej z es H s)(G:Sa H.get z new x)
 (L:(es.length+new.length) * by'<=aJ) (l:Fr H) (U : ∃d t,r=⟨d,t,H.gen d t,0⟩) :
 ∃M H',dm P true H r (some t) (some t') s x=some (M,H')/\Ej z (es++new) H' M/\Fr H' /\∀q b,H.get q=some b->s.at?≠some q->H'.get q=some b/\M.at?≠some q:=by
 obtain⟨e,zz,m,F,w,v,N,V,S,Q⟩:=gJ O;have c:=G.mK O m;unfold I7 at p;simp only[bo,iB]at p;have I:(P.underlying t').isNone=false:=by cases h:P.underlying t' with | none=>rw[h]at p;simp at p | some d=>rfl
 have D : ¬((P.underlying t').isNone=true\/isInt P t'≠isNum x):=by
  rw[I,p.2,G.num];simp
 have hd : ¬(z≠z\/z=0\/by'=0\/zz.cells.length≠z):=by simp[N,S,Q]
 obtain⟨dd,j,rfl⟩:=U;rcases T with ⟨rfl,rfl⟩ | ⟨q,rfl,g⟩
 ·by_cases n:new=[];·subst n;refine⟨aO,H,?_,Gj z H,l,λq b g _=>⟨g,by simp[AV.at?]⟩⟩;simp only[dm,eG,eD,m,Option.map_some,cB,if_neg D,F,w,v,c,if_neg hd,if_true];rfl
  refine⟨.bk ⟨dd,j,H.gen dd j,0⟩ 0 new.length none,(⟨dd,j,H.gen dd j,0⟩,some ⟨z,new,true,false⟩) :: H,?_,.inr ⟨⟨dd,j,H.gen dd j,0⟩,by simp,by simp⟩,l.cons dd j _,λq b g _=>?_⟩;·simp only[kS,vG]at L;simp only[dm,eG,eD,m,Option.map_some,cB,if_neg D,F,w,v,c,if_neg hd,if_neg n,if_pos L];rfl
  have f:=qA l (q:=q) (by rw[g];rfl) dd j 0;rw[aa.cL,if_neg f];exact⟨g,by intro e;simp only[AV.at?,ef]at e;exact f e⟩
 by_cases n:new=[];·subst n;refine⟨.bk q 0 es.length none,H,?_,.inr ⟨q,by simp,by simpa using g⟩,l,λq b g f=>⟨g,f⟩⟩;simp only[dm,eG,eD,m,Option.map_some,cB,if_neg D,F,w,v,c,if_neg hd,g,if_true];simp
 have J : ¬(z≠z\/z=0\/by'=0\/new=[]\/zz.cells.length≠z):=(by simp[N,S,Q,n]);have A:(H.get q).isSome=true:=by rw[g];rfl
 have B:H.gen q.d q.t=(H.put q none).gen q.d q.t:=(aa.ej H q none A _ _).symm;refine⟨.bk ⟨q.d,q.t,H.gen q.d q.t,0⟩ 0 (es.length+new.length) none,(⟨q.d,q.t,H.gen q.d q.t,0⟩,some ⟨z,es++new,true,false⟩) :: H.put q none,?_,.inr ⟨⟨q.d,q.t,H.gen q.d q.t,0⟩,by simp,by simp⟩,?_,λR b C f=>?_⟩;·have K:eG P H.get ⟨dd,j,H.gen dd j,0⟩ (some t) (some t') (.bk q 0 es.length none) x=none:=(by simp only[eG,eD,m,Option.map_some,cB,if_neg D,F,w,v,c,if_neg hd,g,if_neg n];simp);simp only[dm,K,EV,Ip];simp only[j9,eD,m,Option.map_some,cB,if_neg D,F,w,v,c,if_neg J,g,L,and_self,if_true,iQs]
 ·rw[B];exact(l.put none A).cons _ _ _
 have G:R≠q:=by intro e;subst e;exact f rfl
 have i:=qA l (q:=R) (by rw[C];rfl) q.d q.t 0;rw[aa.cL,if_neg i,aa.ab,if_neg G];exact⟨C,by intro e;simp only[AV.at?,ef]at e;exact i e⟩
def Mo{m:List UInt8}{i:Nat}(h:i<m.length)(v:UInt8):fm (au m) i 0 (a8 v).cells=some (au (m.set i v)):=by
 unfold fm au;rw[mr,dI h];show(nZ (a8 m[i]) 0 [a8 v]).map _=_;show some ((m.map a8).set i (a8 v))=_;rw[GJ]
def Ej.bk{z:Nat}{es:List AV}{H:aa}{x:AV}(h:Ej z es H x)(c:es≠[]) : ∃r,x = .bk r 0 es.length none/\H.get r=some ⟨z,es,true,false⟩:=by
 rcases h with ⟨_,rfl⟩ | h
 ·exact(c rfl).elim
 exact h
end
end Go.Ab
