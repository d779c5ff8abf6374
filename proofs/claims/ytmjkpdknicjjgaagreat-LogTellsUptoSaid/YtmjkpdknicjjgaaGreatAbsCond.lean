/-
  What is to be shown for a run of the abstract machine, as one proposition that is computed from the code. No statement of a seat is proved here.
-/
import Derived.IntWalk
import Derived.Test.YtmjkpdknicjjgaaGreatAbsEnv
set_option linter.unusedVariables false
set_option linter.unusedSimpArgs false
set_option linter.unusedSectionVars false
set_option linter.unnecessarySimpa false
set_option linter.defProp false
namespace Go.Ab
section
abbrev ed:=Nat->AV
def cK(s:ed):Operand->Option AV
 | .tmp t=>some (s t)
 | .const v=>ofValue v
 | .func f=>some (.fn (.func f) [] [])
 | .global _=>none
def AX(c:Operand->Option AV):List Operand->Option (List AV)
 | []=>some []
 | o :: os=>match c o,AX c os with
  | some x,some xs=>some (x :: xs)
  | _,_=>none
def BC(c:Operand->Option AV):List (Nat × Operand)->Option (List (Nat × AV))
 | []=>some []
 | (i,o) :: os=>match c o,BC c os with
  | some x,some xs=>some ((i,x) :: xs)
  | _,_=>none
def Lz(c:Operand->Option AV):Option Operand->Option (Option Int)
 | none=>some none
 | some o=>match (c o).bind tC with
  | some n=>some (some n)
  | none=>none
def abF(s:ed)(d:Nat)(v:AV):ed:=λi=>cond (Nat.beq i d) v (s i)
def eB(tm:List AV)(s:ed):Prop :=∀i,cX tm i=s i
def uL{tm:List AV}{s:ed}(h:eB tm s):aL tm=cK s:=by
 funext o;cases o<;>simp[aL,cK,h _]
def Cz(c:Operand->Option AV)(l:List Operand):l.mapM c=AX c l:=by
 induction l with| nil=>rfl| cons o l d=>simp only[na,d,AX,rA,sJ];cases c o<;>cases AX c l<;>rfl
def DG{tm:List AV}{s:ed}(h:eB tm s)(l:List (Nat × Operand)):gO tm l=BC (cK s) l:=by
 induction l with| nil=>rfl| cons o l c=>obtain⟨i,o⟩:=o;unfold gO at c ⊢;rw[na,c];simp only[BC,rA,sJ,uL h];cases cK s o<;>cases BC (cK s) l<;>rfl
def JX{tm:List AV}{s:ed}(h:eB tm s)(o:Option Operand):mc tm o=Lz (cK s) o:=by
 cases o with| none=>rfl| some o=>simp only[mc,Lz,uL h];rfl
def eB.set{tm:List AV}{s:ed}(h:eB tm s)(d:Nat)(v:AV):eB (Bx tm d v) (abF s d v):=by
 intro i;rw[rT];unfold abF;split;·rename_i e;subst e;simp
 rename_i e;rw[show Nat.beq i d=false from by cases c:Nat.beq i d with | false=>rfl | true=>exact(e (kF c)).elim];exact h i
def zt(c a b:Option AV):jl:=
 match c.bind DU with
 | some true=>jI a
 | some false=>jI b
 | none=>none
def lD(H:aa)(r:Ref)(q:jl):cJ:=
 match q with
 | some (v,bs)=>some (v,keyed r 0 bs H)
 | none=>none
def Ei(c:Bool)(a b:cJ):cJ:=
 match a with
 | some x=>some x
 | none=>cond c b none
def aV(E:Env)(c:Bool)(pc:FuncId->List AV->Option AV)(tc:tE->List AV->aa->cJ)(H:aa)(r:Ref)(f:Option AV)(args:List AV):cJ:=
 Ei c (lD H r (kT E pc H.get r f args)) (nc E pc tc H r f args)
def CP(E:Env)(c:Bool)(pc:FuncId->List AV->Option AV)(tc:tE->List AV->aa->cJ)(H:aa)(r:Ref)(f:Option AV)(args:List AV):cJ:=
 Ei c (lD H r ((kT E pc H.get r f args).map λp=>(p.1,OA true p.2))) (rD true E.sm H (nc E pc tc H r f args))
def dm(P:Program)(c:Bool)(H:aa)(r:Ref)(t t':Option TypeId)(s x:AV):cJ:=
 Ei c (lD H r (ei P H.get r t t' s x)) (jU P H t t' s x)
def lH(P:Program)(u d:Bool)(H:aa)(r:Ref)(t:TypeId)(n:Nat)(c:Option (List (Nat × AV))):cJ:=
 Ei d (lD H r (fT P u H.get r t n c)) (jH P H r t n c)
def r8(E:Env)(pc:FuncId->List AV->Option AV)(tc:tE->List AV->aa->cJ)(dep:Nat)(u d:Bool)(s:ed)(H:aa)(r:Ref)(o:Oper):jl ⊕ cJ:=
 match o.op with
 | .move x | .assign x => .inl (jI (cK s x))
 | .pick c a b => .inl (zt (cK s c) (cK s a) (cK s b))
 | .alloc e => .inr (lD H r (uD E.P r e))
 | .box e x => .inr (lD H r (HU E.P r e (cK s x)))
 | .build t ps => .inl (nS E.P t (BC (cK s) ps.toList))
 | .buildSlice t n ps => .inr (lH E.P (u && !E.strict o) d H r t n (BC (cK s) ps.toList))
 | .load t a => .inl (nh E.P H.get t (cK s a))
 | .store t a x => .inr (cond d (iV E.P H t (cK s a) (cK s x)) none)
 | .nilCheck x => .inl (Ln (cK s x))
 | .binOp op t D C _ => .inl (bN E.P op t D C (cK s D) (cK s C))
 | .unOp op _ x => .inl (Xj E.P op (cK s x))
 | .convert src dst x=>match dq E.P dst with
  | true => .inr (lD H r (bX E.P H.get r src dst (cK s x)))
  | false => .inl (bX E.P H.get r src dst (cK s x))
 | .makeInterface t x => .inl (yc E.P t (cK s x))
 | .makeFunc f first captured => .inl (yL f (AX (cK s) first.toList) (AX (cK s) captured.toList))
 | .makeSlice t l c => .inr (lD H r (xk E.P r t (cK s l) (cK s c)))
 | .slice t x lo hi h=>match E.wide o && !u with
  | true => .inl (lC E.P H.get t (cK s x) (Lz (cK s) lo) (Lz (cK s) hi) (Lz (cK s) h))
  | false => .inl (cm E.P H.get t (cK s x) (Lz (cK s) lo) (Lz (cK s) hi) (Lz (cK s) h))
 | .fieldAddr t x f => .inl (iB E.P t (cK s x) f)
 | .field t x f => .inl (tf E.P t (cK s x) f)
 | .indexAddr t x ix => .inl (bK E.P H.get t (cK s x) (cK s ix))
 | .index t x ix => .inl (vT E.P t (cK s x) (cK s ix))
 | .typeAssert x _ g ok => .inl (Ad E.P (cK s x) g ok)
 | .extract x i => .inl (sP (cK s x) i)
 | .call c=>
  match AX (cK s) c.args.toList with
  | none => .inl none
  | some args=>
   match c.callee with
   | .value f=>(match Eh E.qC u f with
    | some t => .inl (Gx E.P H.get t args)
    | none=>(match E.gB o with
     | true => .inr (CP E d pc tc H r (cK s f) args)
     | false => .inr (aV E d pc tc H r (cK s f) args)))
   | .invoke _ _ => .inl none
   | .builtin b=>match b,args with
    | .append,[a,x] => .inr (dm E.P d H r c.argTypes[0]? c.argTypes[1]? a x)
    | .copy,[dst,x]=>(match E.wide o with
     | true => .inr (cond d (uh E.P H c.argTypes[0]? dst x) none)
     | false => .inr (cond d (zi E.P H c.argTypes[0]? dst x) none))
    | b,args => .inl (cO E.P (u&&(E.strict o || !(match c.args.toList with | [.tmp _]=>true | _=>false))) H.get r b c.argTypes args)
 | .makeMap _ none => .inr (lD H r (some (.mp r,[oV []])))
 | .lookup t x k ok => .inl (oo E.P H.get t (cK s x) (cK s k) ok)
 | .mapUpdate t m k x => .inr (cond d (jn E.P H t (cK s m) (cK s k) (cK s x)) none)
 | .insert t m k x => .inr (cond d (jn E.P H t (cK s m) (cK s k) (cK s x)) none)
 | .mapEntry t m k => .inr (cond d (pG E.P H t (cK s m) (cK s k)) none)
 | .entryStore _ m n x => .inr (cond d (la H (cK s m) (cK s n) (cK s x)) none)
 | .makeChan t n => .inr (cond d (zY E.P H r t (cK s n)) none)
 | .send c x => .inr (cond d (FF H (cK s c) (cK s x)) none)
 | .recv t c ok => .inr (cond d (Im E.P H t (cK s c) ok) none)
 | _ => .inl none
def n9(E:Env)(pc:FuncId->List AV->Option AV)(tc:tE->List AV->aa->cJ)(dep:Nat)(u:Bool)(tm:List AV)(H:aa)(o:Oper):cJ:=
 match cI E pc u H.get tm ⟨dep,o.dst.getD 0,H.gen dep (o.dst.getD 0),0⟩ o with
 | some (x,bs)=>some (x,keyed ⟨dep,o.dst.getD 0,H.gen dep (o.dst.getD 0),0⟩ 0 bs H)
 | none=>if u && !jj E o then none else evalW E pc tc H tm ⟨dep,o.dst.getD 0,H.gen dep (o.dst.getD 0),0⟩ o
def Vc(E:Env)(pc:FuncId->List AV->Option AV)(tc:tE->List AV->aa->cJ)(nt dep:Nat)(u:Bool)(ops:Array Oper)(o:Oper)(st:St) :
 evalOp E pc tc nt dep u ops o st=(match wanted ops st.tm o with
  | none=>none
  | some false=>(dg nt st.tm o.dst AV.undef).map λtm => { st with tm}
  | some true=>match n9 E pc tc dep u st.tm st.hp o with
   | some (x,H)=>(dg nt st.tm o.dst x).map λtm=>⟨tm,H⟩
   | none=>none):=by
 unfold evalOp n9;cases hw:wanted ops st.tm o with
 | none=>rfl
 | some b=>
 cases b with| false=>rfl| true=>
  cases cI E pc u st.hp.get st.tm ⟨dep,o.dst.getD 0,st.hp.gen dep (o.dst.getD 0),0⟩ o with
  | some p=>rfl
  | none=>
   dsimp only;split;·rfl
   rfl
def Vd{E:Env}{pc:FuncId->List AV->Option AV}{tc:tE->List AV->aa->cJ}{dep:Nat}{u:Bool}{tm:List AV}{H:aa}{o:Oper}{v:AV}
 (h:cI E pc u H.get tm ⟨dep,o.dst.getD 0,H.gen dep (o.dst.getD 0),0⟩ o=some (v,[])):n9 E pc tc dep u tm H o=some (v,H):=by
 unfold n9;rw[h];rfl
def Mf{E:Env}{pc:FuncId->List AV->Option AV}{tc:tE->List AV->aa->cJ}{dep:Nat}{u:Bool}{tm:List AV}{H H':aa}{o:Oper}{v:AV}{q:jl}
 (h:cI E pc u H.get tm ⟨dep,o.dst.getD 0,H.gen dep (o.dst.getD 0),0⟩ o=q) (c:lD H ⟨dep,o.dst.getD 0,H.gen dep (o.dst.getD 0),0⟩ q=some (v,H')):n9 E pc tc dep u tm H o=some (v,H'):=by
 unfold n9;rw[h];unfold lD at c;split at c;·exact c
 cases c
def lG{E:Env}{pc:FuncId->List AV->Option AV}{tc:tE->List AV->aa->cJ}{dep:Nat}{u:Bool}{tm:List AV}{H H':aa}{o:Oper}{v:AV}{q:jl}{w:cJ}
 (h:cI E pc u H.get tm ⟨dep,o.dst.getD 0,H.gen dep (o.dst.getD 0),0⟩ o=q) (d:evalW E pc tc H tm ⟨dep,o.dst.getD 0,H.gen dep (o.dst.getD 0),0⟩ o=w)
 (c:Ei (!(u && !jj E o)) (lD H ⟨dep,o.dst.getD 0,H.gen dep (o.dst.getD 0),0⟩ q) w=some (v,H')):n9 E pc tc dep u tm H o=some (v,H'):=by
 unfold n9;rw[h];cases q with
 | some p=>simpa [Ei,lD] using c
 | none=>
  rw[d];cases hd:(u && !jj E o) with
  | true=>rw[hd]at c;simp[Ei,lD]at c
  | false=>rw[hd]at c;simpa [Ei,lD] using c
section
variable{E:Env}{pc:FuncId->List AV->Option AV}{tc:tE->List AV->aa->cJ}{dep:Nat}{u:Bool}{tm:List AV}{s:ed}{H:aa}{o:Oper}
def Uq(d:eB tm s){q:jl}{v:AV}
 (h:r8 E pc tc dep u (!(u && !jj E o)) s H ⟨dep,o.dst.getD 0,H.gen dep (o.dst.getD 0),0⟩ o = .inl q) (j:q=some (v,[])):n9 E pc tc dep u tm H o=some (v,H):=by
 subst j;refine Vd ?_;have e:=uL d;unfold r8 at h;unfold cI;split at h<;>rename_i n<;>simp only[n];all_goals try (simp only[zf,reduceCtorEq]at h)
 all_goals try (rw[<-h];simp only[e,zt,Gw,DG d,JX d,Cz];done)
 ·rw[<-h];unfold Gw zt;rw[e];rfl
 ·split at h;·cases h
  simp only[zf]at h;rw[<-h,e]
 ·cases g:(E.wide o && !u) with| true=>rw[g]at h;simp only[zf]at h;rw[<-h];simp only[iQq,e,JX d]| false=>rw[g]at h;simp only[zf]at h;rw[<-h];simp only[iQu,e,JX d]
 rw[Cz,e];split at h;·cases h
 rename_i args c;rw[c];dsimp only;split at h
 ·rename_i f m;rw[m];dsimp only;split at h;·rename_i t i;simp only[zf]at h;simp only[i];exact h
  split at h<;>cases h
 ·cases h
 rename_i b l;rw[l];dsimp only;split at h;·cases h
 ·split at h<;>cases h
 simp only[zf]at h;exact h
def Up(p:eB tm s){w:cJ}{v:AV}{H':aa}
 (h:r8 E pc tc dep u (!(u && !jj E o)) s H ⟨dep,o.dst.getD 0,H.gen dep (o.dst.getD 0),0⟩ o = .inr w) (z:w=some (v,H')):n9 E pc tc dep u tm H o=some (v,H'):=by
 subst z;have e:=uL p;unfold r8 at h;split at h<;>rename_i c;all_goals try (simp only[reduceCtorEq]at h;done)
 all_goals try (simp only[xD]at h)
 all_goals try (refine Mf (by unfold cI;simp only[c,e]) h;done)
 ·rw[<-DG p]at h;exact lG (q:=fT _ _ _ _ _ _ _) (w:=jH _ _ _ _ _ _) (by unfold cI;simp only[c]) (by unfold evalW;simp only[c]) h
 ·rw[<-e]at h;exact lG (q:=none) (w:=iV _ _ _ _ _) (by unfold cI;simp only[c]) (by unfold evalW;simp only[c]) h
 ·split at h;·simp only[xD]at h;refine Mf (by unfold cI;simp only[c,e]) h
  cases h
 ·split at h<;>cases h
 ·split at h;·cases h
  rename_i args i;have g:=i;rw[<-Cz,<-e]at g;split at h
  ·rename_i f n;split at h;·cases h
   rename_i m;split at h;·rename_i d;simp only[xD]at h;rw[<-e]at h;exact lG (q:=(kT _ _ _ _ _ _).map _) (w:=rD true _ _ (nc _ _ _ _ _ _ _)) (by unfold cI;simp only[c,g,n,m,d]) (by unfold evalW;simp only[c,g,n,d]) h
   rename_i d;simp only[xD]at h;rw[<-e]at h;exact lG (q:=kT _ _ _ _ _ _) (w:=nc _ _ _ _ _ _ _) (by unfold cI;simp only[c,g,n,m,d,OA];cases kT E pc H.get _ (aL tm f) args<;>rfl) (by unfold evalW;simp only[c,g,n,d];rfl) h
  ·cases h
  rename_i b l;split at h;·simp only[xD]at h;exact lG (q:=ei _ _ _ _ _ _ _) (w:=jU _ _ _ _ _ _) (by unfold cI;simp only[c,g,l];rfl) (by unfold evalW;simp only[c,g,l]) h
  ·split at h;·rename_i j;simp only[xD]at h;exact lG (q:=none) (w:=uh _ _ _ _ _) (by unfold cI;simp only[c,g,l];rfl) (by unfold evalW;simp only[c,g,l,j,iQq]) h
   rename_i j;simp only[xD]at h;exact lG (q:=none) (w:=zi _ _ _ _ _) (by unfold cI;simp only[c,g,l];rfl) (by unfold evalW;simp only[c,g,l,j,iQu]) h
  cases h
 ·rw[<-e]at h;exact lG (q:=none) (w:=jn _ _ _ _ _ _) (by unfold cI;simp only[c]) (by unfold evalW;simp only[c]) h
 ·rw[<-e]at h;exact lG (q:=none) (w:=jn _ _ _ _ _ _) (by unfold cI;simp only[c]) (by unfold evalW;simp only[c]) h
 ·rw[<-e]at h;exact lG (q:=none) (w:=pG _ _ _ _ _) (by unfold cI;simp only[c]) (by unfold evalW;simp only[c]) h
 ·rw[<-e]at h;exact lG (q:=none) (w:=la _ _ _ _) (by unfold cI;simp only[c]) (by unfold evalW;simp only[c]) h
 ·rw[<-e]at h;exact lG (q:=none) (w:=zY _ _ _ _ _) (by unfold cI;simp only[c]) (by unfold evalW;simp only[c]) h
 ·rw[<-e]at h;exact lG (q:=none) (w:=FF _ _ _) (by unfold cI;simp only[c]) (by unfold evalW;simp only[c]) h
 rw[<-e]at h;exact lG (q:=none) (w:=Im _ _ _ _ _) (by unfold cI;simp only[c]) (by unfold evalW;simp only[c]) h
end
def CL(E:Env)(u:Bool)(s:ed)(H:aa)(r:Ref)(o:Oper):Option cJ:=
 if u || !E.deep o then none else
 match o.op with
 | .buildSlice t n ps=>some (tF E.P H r t n (BC (cK s) ps.toList))
 | .call c=>(match c.callee with
  | .builtin .append=>some (match AX (cK s) c.args.toList with
   | some [a,x]=>AF E.P H r c.argTypes[0]? c.argTypes[1]? a x
   | _=>none)
  | _=>none)
 | _=>none
def Mn{E:Env}{u:Bool}{tm:List AV}{s:ed}{H:aa}{r:Ref}{o:Oper}(d:eB tm s):Et E u H tm r o=CL E u s H r o:=by
 unfold Et CL;split;·rfl
 generalize o.op=op;cases op;case buildSlice t n ps=>dsimp only;rw[DG d]
 case call c=>
  dsimp only;generalize c.callee=ce;cases ce with
  | builtin b=>
   cases b;case append=>
    dsimp only;rw[<-uL d,<-Cz];generalize c.args.toList.mapM (aL tm)=l;match l with
    | none=>rfl
    | some []=>rfl
    | some [_]=>rfl
    | some [_,_]=>rfl
    | some (_ :: _ :: _ :: _)=>rfl
   all_goals rfl
  | _=>rfl
 all_goals rfl
def xm(E:Env)(pc:FuncId->List AV->Option AV)(tc:tE->List AV->aa->cJ)(dep:Nat)(u c:Bool)(s:ed)(H:aa)(r:Ref)(o:Oper):jl ⊕ cJ:=
 match CL E u s H r o with
 | some w => .inr w
 | none=>r8 E pc tc dep u c s H r o
def xu(E:Env)(pc:FuncId->List AV->Option AV)(tc:tE->List AV->aa->cJ)(dep:Nat)(u:Bool)(tm:List AV)(H:aa)(o:Oper):cJ:=
 match Et E u H tm ⟨dep,o.dst.getD 0,H.gen dep (o.dst.getD 0),0⟩ o with
 | some w=>w
 | none=>n9 E pc tc dep u tm H o
def J8(E:Env)(pc:FuncId->List AV->Option AV)(tc:tE->List AV->aa->cJ)(nt dep:Nat)(u:Bool)(ops:Array Oper)(o:Oper)(st:St) :
 yQ E pc tc nt dep u ops o st=(match wanted ops st.tm o with
  | none=>none
  | some false=>(dg nt st.tm o.dst AV.undef).map λtm => { st with tm}
  | some true=>match xu E pc tc dep u st.tm st.hp o with
   | some (x,H)=>(dg nt st.tm o.dst x).map λtm=>⟨tm,H⟩
   | none=>none):=by
 unfold yQ xu;cases Et E u st.hp st.tm ⟨dep,o.dst.getD 0,st.hp.gen dep (o.dst.getD 0),0⟩ o with
 | none=>exact Vc E pc tc nt dep u ops o st
 | some w=>rfl
section
variable{E:Env}{pc:FuncId->List AV->Option AV}{tc:tE->List AV->aa->cJ}{dep:Nat}{u:Bool}{tm:List AV}{s:ed}{H:aa}{o:Oper}
def Xz(c:eB tm s){q:jl}{v:AV}
 (h:xm E pc tc dep u (!(u && !jj E o)) s H ⟨dep,o.dst.getD 0,H.gen dep (o.dst.getD 0),0⟩ o = .inl q) (d:q=some (v,[])):xu E pc tc dep u tm H o=some (v,H):=by
 unfold xm at h;unfold xu;rw[Mn c];cases hd:CL E u s H ⟨dep,o.dst.getD 0,H.gen dep (o.dst.getD 0),0⟩ o with
 | some w=>rw[hd]at h;cases h
 | none=>rw[hd]at h;exact Uq c h d
def Xy(c:eB tm s){w:cJ}{v:AV}{H':aa}
 (h:xm E pc tc dep u (!(u && !jj E o)) s H ⟨dep,o.dst.getD 0,H.gen dep (o.dst.getD 0),0⟩ o = .inr w) (d:w=some (v,H')):xu E pc tc dep u tm H o=some (v,H'):=by
 unfold xm at h;unfold xu;rw[Mn c];cases hd:CL E u s H ⟨dep,o.dst.getD 0,H.gen dep (o.dst.getD 0),0⟩ o with
 | some w'=>rw[hd]at h;cases h;exact d
 | none=>rw[hd]at h;exact Up c h d
end
open Classical in
noncomputable def ay(E:Env)(f:FuncId)(args:List AV):Option AV:=
 if h : ∃y n,∀m,n<=m->cY E (ck E m) f args=some y then some h.choose else none
def tM{E:Env}{f:FuncId}{args:List AV}{y:AV}:ay E f args=some y ↔ ∃n,∀m,n<=m->cY E (ck E m) f args=some y:=by
 unfold ay;constructor
 ·intro h;split at h;·rename_i d;simp only[dV]at h;rw[<-h];exact d.choose_spec
  cases h
 intro h;rw[dif_pos ⟨y,h⟩];obtain⟨n,g⟩:=h;have d : ∃y n,∀m,n<=m->cY E (ck E m) f args=some y:=⟨y,n,g⟩;obtain⟨e,c⟩:=d.choose_spec;have j:=g (max n e) (Nat.le_max_left ..);have i:=c (max n e) (Nat.le_max_right ..);exact i.symm.trans j
open Classical in
noncomputable def cD(E:Env)(dep:Nat)(f:tE)(args:List AV)(H:aa):cJ:=
 if h : ∃y n,∀m,n<=m->eG E (ck E m) dep f args H=some y then some h.choose else none
def qJ{E:Env}{dep:Nat}{f:tE}{args:List AV}{H:aa}{y:AV × aa}:cD E dep f args H=some y ↔ ∃n,∀m,n<=m->eG E (ck E m) dep f args H=some y:=by
 unfold cD;constructor
 ·intro h;split at h;·rename_i d;simp only[dV]at h;rw[<-h];exact d.choose_spec
  cases h
 intro h;rw[dif_pos ⟨y,h⟩];obtain⟨n,g⟩:=h;have d : ∃y n,∀m,n<=m->eG E (ck E m) dep f args H=some y:=⟨y,n,g⟩;obtain⟨e,c⟩:=d.choose_spec;have j:=g (max n e) (Nat.le_max_left ..);have i:=c (max n e) (Nat.le_max_right ..);exact i.symm.trans j
def MB{E:Env}{d:Bool}{dep:Nat}{H H':aa}{r:Ref}{f:Option AV}{args:List AV}{v:AV}(h:aV E d (ay E) (cD E dep) H r f args=some (v,H')) :
 ∃n,∀m,n<=m->aV E d (cY E (ck E m)) (eG E (ck E m) dep) H r f args=some (v,H'):=by
 unfold aV at h ⊢;by_cases p : ∃g first captured,f=some (.fn (.func g) first captured)
 ·obtain⟨g,first,captured,rfl⟩:=p;by_cases i:E.mode g=2
  ·simp only[kT,nc,if_pos i,lD,Ei]at h ⊢;cases d with
   | true=>simp only[iQq]at h ⊢;obtain⟨n,e⟩:=qJ.1 h;exact⟨n,e⟩
   | false=>simp at h
  simp only[kT,nc,if_neg i]at h ⊢;cases w:(first++args++captured).mapM (view H.get depth) with
  | none=>rw[w]at h;simp[lD,Ei]at h
  | some xs=>
   rw[w]at h;dsimp only at h ⊢;cases c:ay E g xs with
   | none=>rw[c]at h;simp[lD,Ei]at h
   | some y=>rw[c]at h;obtain⟨n,e⟩:=tM.1 c;refine⟨n,λm j=>?_⟩;rw[e m j];exact h
 have l : ∀pc,kT E pc H.get r f args=none:=by
  intro pc;unfold kT;split;·exact(p ⟨_,_,_,rfl⟩).elim
  rfl
 by_cases c : ∃q,f=some (.yld q)
 ·obtain⟨q,rfl⟩:=c;rw[l]at h;cases d with
  | false=>simp[lD,Ei]at h
  | true=>have z:cD E dep (.yld q) args H=some (v,H'):=h;obtain⟨n,e⟩:=qJ.1 z;refine⟨n,λm j=>?_⟩;rw[l];exact e m j
 have i : ∀pc tc,nc E pc tc H r f args=none:=by
  intro pc tc;unfold nc;split;·exact(p ⟨_,_,_,rfl⟩).elim
  ·exact(c ⟨_,rfl⟩).elim
  rfl
 rw[l,i]at h;cases d<;>simp[lD,Ei]at h
def FG{sm:ML}{H H':aa}{x:cJ}{v:AV}(h:rD true sm H x=some (v,H')) : ∃c,x=some (v,c)/\H'=H/\flat depth v=true/\(GW H c||sm.f H c)=true:=by
 cases x with| none=>simp[rD]at h| some p=>
  obtain⟨y,c⟩:=p;unfold rD at h;simp only at h;split at h;·rename_i d;cases h;rw[bt]at d;exact⟨c,rfl,rfl,d.1,d.2⟩
  cases h
def Ki{E:Env}{g:Bool}{dep:Nat}{H H':aa}{r:Ref}{f:Option AV}{args:List AV}{v:AV}(h:CP E g (ay E) (cD E dep) H r f args=some (v,H')) :
 ∃n,∀m,n<=m->CP E g (cY E (ck E m)) (eG E (ck E m) dep) H r f args=some (v,H'):=by
 unfold CP at h ⊢;by_cases z : ∃j first captured,f=some (.fn (.func j) first captured)
 ·obtain⟨j,first,captured,rfl⟩:=z;by_cases l:E.mode j=2
  ·simp only[kT,nc,if_pos l,lD,Ei,zh]at h ⊢;cases g with
   | true=>simp only[iQq]at h ⊢;obtain⟨H1,e,B,F,G⟩:=FG h;obtain⟨n,i⟩:=qJ.1 e;refine⟨n,λm d=>?_⟩;rw[i m d];rw[e]at h;exact h
   | false=>simp at h
  simp only[kT,nc,if_neg l]at h ⊢;cases A:(first++args++captured).mapM (view H.get depth) with
  | none=>rw[A]at h;simp[lD,Ei,rD]at h
  | some xs=>
   rw[A]at h;dsimp only at h ⊢;cases c:ay E j xs with
   | none=>rw[c]at h;simp[lD,Ei,rD]at h
   | some y=>rw[c]at h;obtain⟨n,i⟩:=tM.1 c;refine⟨n,λm d=>?_⟩;rw[i m d];exact h
 have w : ∀pc,kT E pc H.get r f args=none:=by
  intro pc;unfold kT;split;·exact(z ⟨_,_,_,rfl⟩).elim
  rfl
 by_cases c : ∃q,f=some (.yld q)
 ·obtain⟨q,rfl⟩:=c;rw[w]at h;cases g with
  | false=>simp[lD,Ei]at h
  | true=>have p:rD true E.sm H (cD E dep (.yld q) args H)=some (v,H'):=h;obtain⟨H1,e,_⟩:=FG p;obtain⟨n,i⟩:=qJ.1 e;refine⟨n,λm d=>?_⟩;rw[w];show rD true E.sm H (eG E (ck E m) dep (.yld q) args H)=_;rw[i m d];rw[e]at p;exact p
 have l : ∀pc tc,nc E pc tc H r f args=none:=by
  intro pc tc;unfold nc;split;·exact(z ⟨_,_,_,rfl⟩).elim
  ·exact(c ⟨_,rfl⟩).elim
  rfl
 rw[w,l]at h;cases g<;>simp[lD,Ei,rD]at h
def GJ{E:Env}{dep:Nat}{u j:Bool}{s:ed}{H:aa}{r:Ref}{o:Oper} :
 (∀q v,r8 E (ay E) (cD E dep) dep u j s H r o = .inl q->q=some (v,[]) ->∃n,∀m,n<=m->r8 E (cY E (ck E m)) (eG E (ck E m) dep) dep u j s H r o = .inl (some (v,[]))) /\
 (∀w v H',r8 E (ay E) (cD E dep) dep u j s H r o = .inr w->w=some (v,H') ->∃n,∀m,n<=m->r8 E (cY E (ck E m)) (eG E (ck E m) dep) dep u j s H r o = .inr (some (v,H'))):=by
 constructor
 ·intro q v h A;subst A;refine⟨0,λm _=>?_⟩;unfold r8 at h ⊢;generalize o.op=op at h ⊢;cases op;all_goals try exact h
  case makeMap a b=>cases b<;>exact h
  rename_i c;dsimp only at h ⊢;cases i:AX (cK s) c.args.toList with
  | none=>rw[i]at h;exact h
  | some args=>
   rw[i]at h;dsimp only at h ⊢;cases e:c.callee with
   | value f=>
    rw[e]at h;dsimp only at h ⊢;cases d:Eh E.qC u f with
    | some t=>rw[d]at h;exact h
    | none=>rw[d]at h;dsimp only at h;split at h<;>cases h
   | invoke a b=>rw[e]at h;exact h
   | builtin b=>rw[e]at h;exact h
 intro w v H' h z;subst z;unfold r8 at h ⊢;generalize o.op=op at h ⊢;cases op;all_goals try (exact⟨0,λm _=>h⟩)
 case makeMap a b=>cases b<;>exact⟨0,λm _=>h⟩
 rename_i c;dsimp only at h ⊢;cases i:AX (cK s) c.args.toList with
 | none=>rw[i]at h;cases h
 | some args=>
  rw[i]at h;dsimp only at h ⊢;cases e:c.callee with
  | value f=>
   rw[e]at h;dsimp only at h ⊢;cases d:Eh E.qC u f with
   | some t=>rw[d]at h;cases h
   | none=>
   rw[d]at h;dsimp only at h ⊢;cases g:E.gB o with
   | true=>rw[g]at h;simp only[xD]at h;obtain⟨n,p⟩:=Ki h;exact⟨n,λm l=>iQf _ (p m l)⟩
   | false=>rw[g]at h;simp only[xD]at h;obtain⟨n,p⟩:=MB h;exact⟨n,λm l=>iQf _ (p m l)⟩
  | invoke a b=>rw[e]at h;cases h
  | builtin b=>rw[e]at h;exact⟨0,λm _=>h⟩
def IC{E:Env}{dep:Nat}{u c:Bool}{s:ed}{H:aa}{r:Ref}{o:Oper} :
 (∀q v,xm E (ay E) (cD E dep) dep u c s H r o = .inl q->q=some (v,[]) ->∃n,∀m,n<=m->xm E (cY E (ck E m)) (eG E (ck E m) dep) dep u c s H r o = .inl (some (v,[]))) /\
 (∀w v H',xm E (ay E) (cD E dep) dep u c s H r o = .inr w->w=some (v,H') ->∃n,∀m,n<=m->xm E (cY E (ck E m)) (eG E (ck E m) dep) dep u c s H r o = .inr (some (v,H'))):=by
 constructor
 ·intro q v h f;unfold xm at h ⊢;cases hd:CL E u s H r o with
  | some w=>rw[hd]at h;cases h
  | none=>rw[hd]at h;obtain⟨n,d⟩:=GJ.1 q v h f;exact⟨n,d⟩
 intro w v H' h e;unfold xm at h ⊢;cases hd:CL E u s H r o with
 | some w'=>rw[hd]at h;cases h;exact⟨0,λm _=>by rw[e]⟩
 | none=>rw[hd]at h;obtain⟨n,d⟩:=GJ.2 w v H' h e;exact⟨n,d⟩
abbrev Mk{c:Type}(a:c):Type:=Unit
structure dL (q:jl) (K:AV->Prop) (m:Mk K:=()):Prop where
 h : ∃v,q=some (v,[])/\K v
structure gh (w:cJ) (K:AV->aa->Prop) (m:Mk K:=()):Prop where
 h : ∃v H,w=some (v,H)/\K v H
def YV(x:AV)(c:Bool):Option Bool:=
 match x with
 | .v (.bool b)=>some (b == c)
 | .v (.tuple d)=>if d.isEmpty then some false else none
 | _=>none
def gd(x:AV)(c:Bool)(A B:Prop):Prop:=
 match YV x c with
 | some true=>A
 | some false=>B
 | none=>False
structure gQ (x:AV) (want:Bool) (q:jl) (K:AV->Prop) (m:Mk (q,K):=()):Prop where
 h:gd x want (dL q K) (K AV.undef)
structure gW (x:AV) (want:Bool) (H:aa) (w:cJ) (K:AV->aa->Prop) (m:Mk (w,K):=()):Prop where
 h:gd x want (gh w K) (K AV.undef H)
def brP(x:Option AV)(A B:Prop):Prop:=
 match x.bind DU with
 | some b=>cond b A B
 | none=>False
structure br (x:Option AV) (A B:Prop) (m:Mk (A,B):=()):Prop where
 h:brP x A B
def J5(ops:Array Oper)(s:ed)(o:Oper):Option (Option (AV × Bool)):=
 match o.guard with
 | none=>none
 | some (j,c)=>match (ops[j]?).bind (·.dst) with
  | some t=>some (some (s t,c))
  | none=>some none
def HV(nt:Nat)(s:ed)(dst:Option Tmp)(v:AV)(K:ed->Prop):Prop:=
 match dst with
 | none=>K s
 | some d=>cond (Nat.blt d nt) (K (abF s d v)) False
def Z4(E:Env)(nt dep:Nat)(u:Bool)(ops:Array Oper)(o:Oper)(s:ed)(H:aa)(K:ed->aa->Prop):Prop:=
 match xm E (ay E) (cD E dep) dep u (!(u && !jj E o)) s H ⟨dep,o.dst.getD 0,H.gen dep (o.dst.getD 0),0⟩ o with
 | .inl q=>match J5 ops s o with
  | none=>(match o.op with
   | .move x | .assign x=>(match cK s x with
    | some v=>HV nt s o.dst v λs=>K s H
    | none=>False)
   | _=>dL q λv=>HV nt s o.dst v λs=>K s H)
  | some (some (x,c))=>gQ x c q λv=>HV nt s o.dst v λs=>K s H
  | some none=>HV nt s o.dst AV.undef λs=>K s H
 | .inr w=>match J5 ops s o with
  | none=>gh w λv H=>HV nt s o.dst v λs=>K s H
  | some (some (x,c))=>gW x c H w λv H=>HV nt s o.dst v λs=>K s H
  | some none=>HV nt s o.dst AV.undef λs=>K s H
def wpOps(E:Env)(nt dep:Nat)(u:Bool)(ops:Array Oper):List Oper->ed->aa->(ed->aa->Prop)->Prop
 | [],s,H,K=>K s H
 | o :: os,s,H,K=>Z4 E nt dep u ops o s H λs H=>wpOps E nt dep u ops os s H K
def Fin(E:Env)(fn:Func)(rd:Option Ref)(o:Option St)(y:AV)(H':aa):Prop:=match rd with
 | none =>∃st,o=some st/\xi E.P fn st=some y/\st.hp=H'
 | some r =>∃st n,o=vV (some r) st n/\y = .v (.int .i64 (n:Nat))/\st.hp=H'
def tS(E:Env)(fn:Func)(rd:Option Ref)(dep:Nat)(c:List Item)(s:ed)(H:aa)(Q:AV->aa->Prop):Prop:=
 ∀tm,eB tm s ->∃y H',Q y H' /\∃n,∀m,n<=m->Fin E fn rd (ck E m rd fn.ntmps dep c ⟨tm,H⟩) y H'
def MP(g:ed):List (Nat × AV)->ed
 | [],i=>g i
 | (j,v) :: l,i=>cond (Nat.beq i j) v (MP g l i)
structure V6 (E:Env) (fn:Func) (rd:Option Ref) (dep:Nat) (items:List Item) (l:List (Nat × AV)) (H:aa) (Q:AV->aa->Prop):Prop where
 h : ∀g,tS E fn rd dep items (MP g l) H Q
abbrev cB(E:Env)(fn:Func)(dep:Nat)(c:List Item)(l:List (Nat × AV))(H:aa)(Q:AV->aa->Prop):Prop:=V6 E fn none dep c l H Q
def Ci(s:ed):List Nat->List (Nat × AV)
 | []=>[]
 | t :: c=>(t,s t) :: Ci s c
def Ut(s:ed)(l:List Nat):MP s (Ci s l)=s:=by
 induction l with| nil=>rfl| cons t l c=>
  funext i;show cond (Nat.beq i t) (s t) (MP s (Ci s l) i)=s i;rw[c];cases h:Nat.beq i t with
  | true=>rw[kF h];rfl
  | false=>rfl
def lF:Code->Option Nat
 | .region id _ _=>some id
 | .seq a b=>match lF a with
  | some i=>some i
  | none=>lF b
 | .cond _ a b=>match lF a with
  | some i=>some i
  | none=>lF b
 | .block _ c | .loop c | .scope c=>lF c
 | _=>none
def xj(P:Program)(H:aa)(x:AV)(t:TypeId):jl:=
 match x,eI P t,aH P t with
 | .ptr r i j,some g,some n=>match H.get r with
  | some b=>jI (bP b.es i j n g)
  | none=>none
 | _,_,_=>none
def pack:List AV->AV
 | [] => .v (.tuple #[])
 | [x]=>x
 | xs => .tup xs
def FD(P:Program)(s:ed)(H:aa)(Q:AV->aa->Prop):List ResultVar->List AV->Prop
 | [],acc=>Q (pack acc.reverse) H
 | .tmp t :: rs,acc=>FD P s H Q rs (s t :: acc)
 | .cell a t :: rs,acc=>dL (xj P H (s a) t) λv=>FD P s H Q rs (v :: acc)
def te(x y:AV):Bool:=match kS x,kS y with
 | some r,some r'=>decide (r≠r')
 | _,_=>true
def F8(H:aa)(x:AV):Bool:=match x with
 | .ptr r _ _=>(match H.get r with
  | some b => !b.arr
  | none=>false)
 | _=>true
def bsV(x:AV):Bool:=match x with
 | .bA .. => true
 | .v _=>true
 | _=>false
def TY(s:ed)(p:Tmp × Tmp):Bool:=te (s p.1) (s p.2)
def F9(s:ed)(H:aa)(o:Oper):Bool:=match o.op with
 | .store _ (.tmp t) _=>F8 H (s t)
 | _=>true
def Qe(E:Env)(s:ed)(o:Oper):Bool := !(E.gB o&&Aw o.op)||(match ZU o.op with
 | some t=>bsV (s t)
 | none=>false)
def VK(E:Env)(l:List (Tmp × Tmp))(ops:Array Oper)(s:ed)(H:aa):Prop:=l.all (TY s)=true/\ops.toList.all (F9 s H)=true/\ops.toList.all (Qe E s)=true
def qU(l:List (AV × AV))(st bs:List AV)(H:aa):Prop:=(l.all λp=>te p.1 p.2)=true/\st.all (F8 H)=true/\bs.all bsV=true
def Y8(assign body:Code):Nat:=match lF (.seq assign body) with
 | some i=>i+10000
 | none=>10000
structure bgP (o:Option (Nat × AV)) (K:AV->Prop) (m:Mk K:=()):Prop where
 h : ∃info,o=some (0,info)/\K info
def KB(P:Program)(fn:Func)(rd:Option Ref)(c:Nat)(s:ed)(H:aa)(Q:AV->aa->Prop):Prop:=match rd with
 | none=>cond (Nat.ble c 2) (FD P s H Q fn.results.toList []) False
 | some _=>Q (.v (.int .i64 c)) H
def wp(E:Env)(fn:Func)(rd:Option Ref)(dep:Nat)(live:Nat->Option (List Nat))(cut:Nat->Bool)(Q:AV->aa->Prop):Nat->List Item->ed->aa->Prop
 | 0,items,s,H=>tS E fn rd dep items s H Q
 | n+1,items,s,H=>
  match items with
  | []=>KB E.P fn rd 0 s H Q
  | .beginRound :: k=>(match rd with
   | none=>False
   | some r=>bgP (xq H r) λd=>wp E fn rd dep live cut Q n k s (H.put r (some (dW 1 d))))
  | .code c :: k=>
   (match c with
   | .skip | .label _=>wp E fn rd dep live cut Q n k s H
   | .ret=>KB E.P fn rd 2 s H Q
   | .seq a b=>wp E fn rd dep live cut Q n (.code a :: .code b :: k) s H
   | .cond c a b=>br (cK s c) (wp E fn rd dep live cut Q n (.code a :: k) s H) (wp E fn rd dep live cut Q n (.code b :: k) s H)
   | .block id b=>wp E fn rd dep live cut Q n (.code b :: .inBlock id :: k) s H
   | .scope b=>wp E fn rd dep live cut Q n (.code b :: .inScope b :: k) s H
   | .loop b=>(match (lF b).bind live with
    | some l=>V6 E fn rd dep (.inLoop b :: k) (Ci s l) H Q
    | none=>tS E fn rd dep (.inLoop b :: k) s H Q)
   | .exit id=>(match exitTo id k with
    | some k'=>wp E fn rd dep live cut Q n k' s H
    | none=>KB E.P fn rd (id+3) s H Q)
   | .rangeFunc g ps a b=>(match live (Y8 a b) with
    | some l=>V6 E fn rd dep (.code (.rangeFunc g ps a b) :: k) (Ci s l) H Q
    | none=>tS E fn rd dep (.code (.rangeFunc g ps a b) :: k) s H Q)
   | .region id ops u=>(match cut id with
    | true=>(match live id with
     | some l=>V6 E fn rd dep (.code (.region id ops u) :: k) (Ci s l) H Q
     | none=>False)
    | false=>wpOps E fn.ntmps dep u ops ops.toList s H λs H=>
     (match u,qV E ops with
     | true,p :: ps=>VK E (p :: ps) ops s H/\wp E fn rd dep live cut Q n k s H
     | _,_=>wp E fn rd dep live cut Q n k s H))
   | _=>False)
  | .inLoop b :: k=>(match (lF b).bind live with
   | some l=>V6 E fn rd dep (.inLoop b :: k) (Ci s l) H Q
   | none=>tS E fn rd dep (.inLoop b :: k) s H Q)
  | .inBlock _ :: k | .inScope _ :: k=>wp E fn rd dep live cut Q n k s H
  | _=>False
def sL{ops:Array Oper}{tm:List AV}{s:ed}(h:eB tm s)(o:Oper):wanted ops tm o=(match J5 ops s o with
 | none=>some true
 | some (some (x,c))=>YV x c
 | some none=>some false):=by
 unfold wanted J5;split;·rename_i e;rw[e]
 rename_i j c e;rw[e];dsimp only;split;·rename_i t d;rw[d];dsimp only;rw[h t];rfl
 rename_i d;rw[d]
def vu{nt:Nat}{s:ed}{dst:Option Tmp}{v:AV}{K:ed->Prop}(h:HV nt s dst v K) : ∃f,K f /\∀tm,eB tm s ->∃tm',dg nt tm dst v=some tm'/\eB tm' f:=by
 unfold HV at h;cases dst with
 | none=>exact⟨s,h,λtm c=>⟨tm,rfl,c⟩⟩
 | some d=>
  dsimp only at h;cases hd:Nat.blt d nt with
  | false=>rw[hd]at h;exact h.elim
  | true=>rw[hd]at h;refine⟨_,h,λtm c=>⟨_,?_,c.set d v⟩⟩;have e:d<nt:=De hd;simp only[dg,if_pos e]
def Wa{E:Env}{nt dep:Nat}{u:Bool}{ops:Array Oper}{o:Oper}{s:ed}{H:aa}{K:ed->aa->Prop}(h:Z4 E nt dep u ops o s H K) :
 ∃c H',K c H' /\∀tm,eB tm s ->∃tm',eB tm' c /\∃n,∀m,n<=m->yQ E (cY E (ck E m)) (eG E (ck E m) dep) nt dep u ops o ⟨tm,H⟩=some ⟨tm',H'⟩:=by
 have run : ∀(v:AV)(H':aa)(c:ed),(∀tm,eB tm s->wanted ops tm o=some true)->(∃n,∀m,n<=m ->∀tm,eB tm s->xu E (cY E (ck E m)) (eG E (ck E m) dep) dep u tm H o=some (v,H')) ->
  (∀tm,eB tm s ->∃tm',dg nt tm o.dst v=some tm'/\eB tm' c) ->
  ∀tm,eB tm s ->∃tm',eB tm' c /\∃n,∀m,n<=m->yQ E (cY E (ck E m)) (eG E (ck E m) dep) nt dep u ops o ⟨tm,H⟩=some ⟨tm',H'⟩:=by
  intro v H' c p ⟨n,I⟩ hp tm d;obtain⟨tm',J,L⟩:=hp tm d;refine⟨tm',L,n,λm A=>?_⟩;rw[J8];dsimp only;rw[p tm d,I m A tm d];dsimp only;rw[J];rfl
 have i : ∀(c:ed),(∀tm,eB tm s->wanted ops tm o=some false)->(∀tm,eB tm s ->∃tm',dg nt tm o.dst AV.undef=some tm'/\eB tm' c) ->
  ∀tm,eB tm s ->∃tm',eB tm' c /\∃n,∀m,n<=m->yQ E (cY E (ck E m)) (eG E (ck E m) dep) nt dep u ops o ⟨tm,H⟩=some ⟨tm',H⟩:=by
  intro c p hp tm d;obtain⟨tm',J,L⟩:=hp tm d;refine⟨tm',L,0,λm _=>?_⟩;rw[J8];dsimp only;rw[p tm d];dsimp only;rw[J];rfl
 unfold Z4 at h;split at h
 ·rename_i q z;have B : ∀v,q=some (v,[]) ->∃n,∀m,n<=m ->∀tm,eB tm s->xu E (cY E (ck E m)) (eG E (ck E m) dep) dep u tm H o=some (v,H):=by
   intro v e;obtain⟨n,I⟩:=IC.1 q v z e;exact⟨n,λm A tm d=>Xz d (I m A) rfl⟩
  split at h
  ·rename_i j;have p : ∀tm,eB tm s->wanted ops tm o=some true:=λtm d=>by rw[sL d,j]
   have f : ∀v,q=some (v,[])->HV nt s o.dst v (λs=>K s H) ->∃c H',K c H' /\∀tm,eB tm s ->∃tm',eB tm' c /\∃n,∀m,n<=m->yQ E (cY E (ck E m)) (eG E (ck E m) dep) nt dep u ops o ⟨tm,H⟩=some ⟨tm',H'⟩:=(by intro v e hp;obtain⟨c,g,hp⟩:=vu hp;exact⟨c,H,g,run v H c p (B v e) hp⟩);split at h
   ·rename_i x M;split at h;·rename_i v e;refine f v ?_ h;unfold xm CL r8 at z;simp only[M,zf,e,ite_self]at z;rw[<-z];rfl
    exact h.elim
   ·rename_i x M;split at h;·rename_i v e;refine f v ?_ h;unfold xm CL r8 at z;simp only[M,zf,e,ite_self]at z;rw[<-z];rfl
    exact h.elim
   obtain⟨v,e,h⟩:=h.h;exact f v e h
  ·rename_i x G j;replace h:=h.h;unfold gd at h;split at h;·rename_i l;obtain⟨v,e,h⟩:=h.h;obtain⟨c,g,hp⟩:=vu h;exact⟨c,H,g,run v H c (λtm d=>by rw[sL d,j];exact l) (B v e) hp⟩
   ·rename_i l;obtain⟨c,g,hp⟩:=vu h;exact⟨c,H,g,i c (λtm d=>by rw[sL d,j];exact l) hp⟩
   exact h.elim
  rename_i j;obtain⟨c,g,hp⟩:=vu h;exact⟨c,H,g,i c (λtm d=>by rw[sL d,j]) hp⟩
 rename_i w p;have F : ∀v H',w=some (v,H') ->∃n,∀m,n<=m ->∀tm,eB tm s->xu E (cY E (ck E m)) (eG E (ck E m) dep) dep u tm H o=some (v,H'):=by
  intro v H' e;obtain⟨n,I⟩:=IC.2 w v H' p e;exact⟨n,λm A tm d=>Xy d (I m A) rfl⟩
 split at h;·rename_i j;obtain⟨v,H',e,h⟩:=h.h;obtain⟨c,g,hp⟩:=vu h;exact⟨c,H',g,run v H' c (λtm d=>by rw[sL d,j]) (F v H' e) hp⟩
 ·rename_i x G j;replace h:=h.h;unfold gd at h;split at h;·rename_i l;obtain⟨v,H',e,h⟩:=h.h;obtain⟨c,g,hp⟩:=vu h;exact⟨c,H',g,run v H' c (λtm d=>by rw[sL d,j];exact l) (F v H' e) hp⟩
  ·rename_i l;obtain⟨c,g,hp⟩:=vu h;exact⟨c,H,g,i c (λtm d=>by rw[sL d,j];exact l) hp⟩
  exact h.elim
 rename_i j;obtain⟨c,g,hp⟩:=vu h;exact⟨c,H,g,i c (λtm d=>by rw[sL d,j]) hp⟩
def SM{E:Env}{nt dep:Nat}{u:Bool}{ops:Array Oper}{K:ed->aa->Prop} : ∀ {l:List Oper} {s:ed} {H:aa},wpOps E nt dep u ops l s H K ->
 ∃g H',K g H' /\∀tm,eB tm s ->∃tm',eB tm' g /\∃n,∀m,n<=m->nw E (cY E (ck E m)) (eG E (ck E m) dep) nt dep u ops l ⟨tm,H⟩=some ⟨tm',H'⟩:=by
 intro l;induction l with
 | nil=>intro s H h;exact⟨s,H,h,λtm c=>⟨tm,c,0,λm _=>rfl⟩⟩
 | cons o l i=>intro s H h;obtain⟨s1,H1,p,f⟩:=Wa h;obtain⟨s2,H2,v,e⟩:=i p;refine⟨s2,H2,v,λtm c=>?_⟩;obtain⟨tm1,t1,n1,q⟩:=f tm c;obtain⟨d,t2,n2,j⟩:=e tm1 t1;exact⟨d,t2,max n1 n2,λm w=>by simp only[nw,q m (by omega),j m (by omega)]⟩
def SL{P:Program}{fn:Func}{s:ed}{H:aa}{Q:AV->aa->Prop} : ∀ {rs:List ResultVar} {c:List AV},FD P s H Q rs c ->
 ∃ys,Q (pack (c.reverse++ys)) H /\∀tm,eB tm s->rs.mapM (lN P ⟨tm,H⟩)=some ys:=by
 intro rs;induction rs with
 | nil=>intro c h;exact⟨[],by simpa [FD] using h,λtm _=>rfl⟩
 | cons r rs p=>
  intro c h;cases r with
  | tmp t=>obtain⟨ys,l,m⟩:=p h;refine⟨s t :: ys,by simpa using l,λtm f=>?_⟩;simp only[na,lN,m tm f,f t,rA,sJ,dX]
  | cell a t=>
   obtain⟨v,d,h⟩:=h.h;obtain⟨ys,l,m⟩:=p h;refine⟨v :: ys,by simpa using l,λtm f=>?_⟩;have G:lN P ⟨tm,H⟩ (.cell a t)=some v:=by
    unfold xj at d;simp only[lN,f a];split at d
    ·rename_i r i j g n q B A;rw[q,B,A];dsimp only;split at d;·rename_i b w;rw[w];dsimp only;simp only[jI,bG]at d;obtain⟨z,F,e⟩:=d;cases e;exact F
     cases d
    cases d
   simp only[na,G,m tm f,rA,sJ,dX]
def Ld{E:Env}{fn:Func}{s:ed}{H:aa}{Q:AV->aa->Prop}(h:FD E.P s H Q fn.results.toList []) : ∃y,Q y H /\∀tm,eB tm s->xi E.P fn ⟨tm,H⟩=some y:=by
 obtain⟨ys,e,c⟩:=SL (fn:=fn) h;refine⟨pack ys,by simpa using e,λtm d=>?_⟩;unfold xi;rw[c tm d];match ys with
 | []=>rfl
 | [x]=>rfl
 | x :: y :: zs=>rfl
def oy{E:Env}{fn:Func}{rd:Option Ref}{dep:Nat}{d c:List Item}{s:ed}{H:aa}{Q:AV->aa->Prop}
 (e : ∀n tm,ck E (n+1) rd fn.ntmps dep d ⟨tm,H⟩=ck E n rd fn.ntmps dep c ⟨tm,H⟩) (h:tS E fn rd dep c s H Q):tS E fn rd dep d s H Q:=by
 intro tm f;obtain⟨y,H',g,n,j⟩:=h tm f;refine⟨y,H',g,n+1,λm l=>?_⟩;obtain⟨m,rfl⟩ : ∃i,m=i+1:=⟨m - 1,by omega⟩;rw[e];exact j m (by omega)
def RO{E:Env}{fn:Func}{rd:Option Ref}{dep:Nat}{b:Code}{k:List Item}{s:ed}{H:aa}{Q:AV->aa->Prop}(h:tS E fn rd dep (.code b :: .inLoop b :: k) s H Q):tS E fn rd dep (.inLoop b :: k) s H Q:=
 oy (λn tm=>by simp only[ck]) h
def Ou{E:Env}{fn:Func}{rd:Option Ref}{dep:Nat}{b:Code}{k:List Item}{s:ed}{H:aa}{Q:AV->aa->Prop}(h:tS E fn rd dep (.inLoop b :: k) s H Q):tS E fn rd dep (.code (.loop b) :: k) s H Q:=by
 intro tm c;obtain⟨y,H',d,n,g⟩:=h tm c;refine⟨y,H',d,n+1,λm i=>?_⟩;obtain⟨m,rfl⟩ : ∃f,m=f+1:=⟨m - 1,by omega⟩;have:=g (m+1) (by omega);have e:ck E (m+1) rd fn.ntmps dep (.code (.loop b) :: k) ⟨tm,H⟩=ck E (m+1) rd fn.ntmps dep (.inLoop b :: k) ⟨tm,H⟩:=by simp only[ck]
 rw[e];exact this
def IS{E:Env}{fn:Func}{rd:Option Ref}{dep:Nat}{c:List Item}{s:ed}{l:List Nat}{H:aa}{Q:AV->aa->Prop}(h:V6 E fn rd dep c (Ci s l) H Q):tS E fn rd dep c s H Q:=by
 have:=h.h s;rwa [Ut]at this
def GZ{E:Env}{fn:Func}{rd:Option Ref}{dep c:Nat}{d:List Item}{s:ed}{H:aa}{Q:AV->aa->Prop}
 (g : ∀n tm,rd.isSome=true\/c<=2->ck E (n+1) rd fn.ntmps dep d ⟨tm,H⟩=(match rd with | none=>some ⟨tm,H⟩ | some r=>vV (some r) ⟨tm,H⟩ c)) (h:KB E.P fn rd c s H Q):tS E fn rd dep d s H Q:=by
 intro tm j;cases rd with
 | none=>
  unfold KB at h;dsimp only at h;cases f:Nat.ble c 2 with
  | false=>rw[f]at h;exact h.elim
  | true=>rw[f]at h;obtain⟨y,l,p⟩:=Ld h;refine⟨y,H,l,1,λm i=>?_⟩;obtain⟨m,rfl⟩ : ∃e,m=e+1:=⟨m - 1,by omega⟩;exact⟨⟨tm,H⟩,g m tm (.inr (De f)),p tm j,rfl⟩
 | some r=>refine⟨.v (.int .i64 c),H,h,1,λm i=>?_⟩;obtain⟨m,rfl⟩ : ∃e,m=e+1:=⟨m - 1,by omega⟩;exact⟨⟨tm,H⟩,c,g m tm (.inl rfl),rfl,rfl⟩
def Sf{E:Env}{ops:Array Oper}{s:ed}{H:aa}{tm:List AV}(c:eB tm s)(h:VK E (qV E ops) ops s H):sA E ops ⟨tm,H⟩=true:=by
 unfold sA;rw[jt,bt];refine .inr ⟨?_,?_⟩;·refine Eq.trans ?_ h.1;congr 1;funext p;unfold Ee TY te;rw[c,c];rfl
 rw[bt];refine⟨Eq.trans ?_ h.2.1,Eq.trans ?_ h.2.2⟩
 ·congr 1;funext o;unfold xa F9;generalize o.op=op;cases op<;>try rfl
  rename_i t a x;cases a<;>try rfl
  rename_i t';dsimp only;rw[c t'];rfl
 congr 1;funext o;unfold Hk Qe;congr 1;cases ZU o.op with
 | none=>rfl
 | some t=>dsimp only;rw[c t];rfl
def lY{E:Env}{fn:Func}{rd:Option Ref}{dep:Nat}{live:Nat->Option (List Nat)}{cut:Nat->Bool}{Q:AV->aa->Prop} : ∀ {n:Nat} {d:List Item} {s:ed} {H:aa},
 wp E fn rd dep live cut Q n d s H->tS E fn rd dep d s H Q:=by
 intro n;induction n with
 | zero=>intro d s H h;exact h
 | succ n f=>
  intro d s H h;have g : ∀ {k:List Item} {x:Option (List Nat)},(match x with | some l=>V6 E fn rd dep k (Ci s l) H Q | none=>tS E fn rd dep k s H Q)->tS E fn rd dep k s H Q:=by
   intro k x h;cases x with
   | some l=>exact IS h
   | none=>exact h
  unfold wp at h;split at h;·exact GZ (λn tm _=>by cases rd<;>simp only[ck]) h
  ·rename_i k;split at h;·exact h.elim
   rename_i r;obtain⟨info,N,h⟩:=h.h;intro tm i;obtain⟨y,H',q,n,J⟩:=f h tm i;refine⟨y,H',q,n+1,λm K=>?_⟩;obtain⟨m,rfl⟩ : ∃v,m=v+1:=⟨m - 1,by omega⟩;have:=J m (by omega);have e:ck E (m+1) (some r) fn.ntmps dep (.beginRound :: k) ⟨tm,H⟩=ck E m (some r) fn.ntmps dep k ⟨tm,H.put r (some (dW 1 info))⟩:=by simp only[ck,N]
   rw[e];exact this
  ·rename_i c k;split at h;·exact oy (λn tm=>by simp only[ck]) (f h)
   ·exact oy (λn tm=>by simp only[ck]) (f h)
   ·exact GZ (λn tm _=>by cases rd<;>simp[ck,vV]) h
   ·exact oy (λn tm=>by simp only[ck]) (f h)
   ·rename_i c a b;replace h:=h.h;unfold brP at h;split at h
    ·rename_i w M;have I:tS E fn rd dep (.code (cond w a b) :: k) s H Q:=by cases w<;>exact f h
     intro tm i;obtain⟨y,H',q,n,J⟩:=I tm i;refine⟨y,H',q,n+1,λm K=>?_⟩;obtain⟨m,rfl⟩ : ∃v,m=v+1:=⟨m - 1,by omega⟩;have:=J m (by omega);have e:ck E (m+1) rd fn.ntmps dep (.code (.cond c a b) :: k) ⟨tm,H⟩=ck E m rd fn.ntmps dep (.code (cond w a b) :: k) ⟨tm,H⟩:=by
      simp only[ck,uL i,M];cases w<;>rfl
     rw[e];exact this
    exact h.elim
   ·exact oy (λn tm=>by simp only[ck]) (f h)
   ·exact oy (λn tm=>by simp only[ck]) (f h)
   ·exact Ou (g h)
   ·rename_i id;split at h;·rename_i k' A;exact oy (λn tm=>by simp only[ck,A]) (f h)
    rename_i A;exact GZ (λn tm z=>by
     simp only[ck,A];cases rd with
     | none=>
      rcases z with z | z
      ·cases z
      omega
     | some r=>rfl) h
   ·exact g h
   ·rename_i id ops u;split at h
    ·split at h;·exact IS h
     exact h.elim
    obtain⟨L,H',j,F⟩:=SM h;have R:tS E fn rd dep k L H' Q /\∀tm,eB tm L->(u && !sA E ops ⟨tm,H'⟩)=false:=by
     cases u with| false=>exact⟨f j,λ_ _=>rfl⟩| true=>
      cases hp:qV E ops with
      | nil=>rw[hp]at j;refine⟨f j,λtm i=>?_⟩;unfold sA;rw[hp];rfl
      | cons p ps=>rw[hp]at j;exact⟨f j.2,λtm i=>by rw[Sf i (by rw[hp];exact j.1)];rfl⟩
    obtain⟨I,G⟩:=R;intro tm i;obtain⟨tm1,t1,n1,O⟩:=F tm i;obtain⟨y,H2,q,n2,B⟩:=I tm1 t1;refine⟨y,H2,q,max n1 n2+1,λm K=>?_⟩;obtain⟨m,rfl⟩ : ∃v,m=v+1:=⟨m - 1,by omega⟩;have:=B m (by omega);have e:ck E (m+1) rd fn.ntmps dep (.code (.region id ops u) :: k) ⟨tm,H⟩=ck E m rd fn.ntmps dep k ⟨tm1,H'⟩:=(by simp only[ck,O m (by omega),G tm1 t1];simp);rw[e];exact this
   exact h.elim
  ·exact g h
  ·exact oy (λn tm=>by simp only[ck]) (f h)
  ·exact oy (λn tm=>by simp only[ck]) (f h)
  exact h.elim
def CT:Nat->List AV->List (Nat × AV)
 | _,[]=>[]
 | i,x :: xs=>(i,x) :: CT (i+1) xs
def Cp(args:List AV)(i:Nat):MP (λ_=>AV.undef) (CT 0 args) i=cX args i:=by
 have : ∀(j:Nat)(l:List AV),MP (λ_=>AV.undef) (CT j l) (j+i)=cX l i:=by
  induction i with
  | zero=>
   intro j l;cases l with
   | nil=>rfl
   | cons x l=>show cond (Nat.beq (j+0) j) x _=x;rw[show Nat.beq (j+0) j=true from by simp];rfl
  | succ i c=>
   intro j l;cases l with
   | nil=>rfl
   | cons x l=>
    show cond (Nat.beq (j+(i+1)) j) x (MP (λ_=>AV.undef) (CT (j+1) l) (j+(i+1)))=cX l i;have e:Nat.beq (j+(i+1)) j=false:=by
     cases h:Nat.beq (j+(i+1)) j with| false=>rfl| true=>have:=kF h;omega
    rw[e];show MP _ _ _=_;rw[<-c (j+1) l,show j+1+i=j+(i+1) by omega]
 simpa using this 0 args
def dA(E:Env)(f:FuncId)(x:AV)(H:aa)(y:AV):Prop:=
 if tg (E.mode f)=true then (af H.get depth x).Nodup/\bJ H.get depth x=some y else view H.get depth x=some y
def nF{E:Env}{f:FuncId}{fn:Func}{c:Code}{args:List AV}{y:AV}(g:E.spec f args=none)(j:E.allowed f=true)(A:E.P.funcs[f]?=some fn)(z:fn.body=some c)(q:Nat.ble args.length fn.ntmps=true)
 (h:cB E fn 0 [.code c] (CT 0 args) [] λx H=>dA E f x H y):ay E f args=some y:=by
 rw[tM];obtain⟨x,H,d,n,w⟩:=h.h (λ_=>AV.undef) args λi=>(Cp args i).symm;refine⟨n,λm l=>?_⟩;obtain⟨st,e,v,p⟩:=w m l;subst p;unfold cY;rw[g];unfold tl;simp only[j,if_true,A,z,if_pos (De q),e,v,Option.map_some];unfold dA at d;split;·rename_i e;rw[if_pos e]at d;rw[if_pos d.1];exact d.2
 rename_i e;rw[if_neg e]at d;exact d
def qK{E:Env}{f:FuncId}{fn:Func}{c:Code}{dep:Nat}{args:List AV}{H:aa}{Q:AV->aa->Prop}(j:E.mode f=2)(g:E.allowed f=true)(B:E.P.funcs[f]?=some fn)(A:fn.body=some c)(q:Nat.ble args.length fn.ntmps=true)
 (h:cB E fn (dep+1) [.code c] (CT 0 args) H Q) (e:E.thrSpec f args H=none:=by rfl) : ∃y H',cD E dep (.fn f) args H=some (y,H')/\Q y H':=by
 obtain⟨x,H1,p,n,z⟩:=h.h (λ_=>AV.undef) args λi=>(Cp args i).symm;refine⟨x,H1,qJ.2 ⟨n,λm d=>?_⟩,p⟩;obtain⟨st,v,w,l⟩:=z m d;unfold eG;dsimp only;rw[e];dsimp only;rw[if_pos j];unfold tl;simp only[g,if_true,B,A,if_pos (De q),v,w,Option.map_some,l]
def UJ{E:Env}{fn:Func}{dep nt:Nat}{r:Ref}{f:FuncId}{ps:List Tmp}{assign body:Code}{tm:List AV}{args:List AV}{H:aa}{Q:AV->aa->Prop}
 (B:xq H r=some (0,.lp f nt ps assign body tm)) (L:fn.ntmps=nt) (hp:args.length=ps.length) (p:ps.all (· < nt)=true) (F:codeOk E.ok assign=true) (A:codeOk E.ok body=true)
 (h:tS E fn (some r) (dep+1) [.code assign,.beginRound,.code body] (cX (uA tm ps args)) H λx H' =>∃c:Nat,x = .v (.int .i64 c) /\∃d H2,xq H' r=some (1,d)/\H2=H'.put r (some (dW c d)) /\
  xq H2 r=some (c,d)/\(c=0->Q (.v (.bool true)) H2)/\(2<=c->Q (.v (.bool false)) H2)/\c≠1) :
 ∃y H',cD E dep (.yld r) args H=some (y,H')/\Q y H':=by
 obtain⟨x,H1,⟨c,rfl,d,H2,G,rfl,J,l,q,e⟩,n,j⟩:=h (uA tm ps args) (λi=>rfl);have key : ∀m,n<=m->Aa E (ck E m) (dep+1) r args H=some (.v (.bool (c == 0)),H1.put r (some (dW c d))):=by
  intro m z;obtain⟨st,k,I,g,K⟩:=j m z;injection g with g
  injection g with g w
  have w:c=k:=(by exact_mod_cast w);subst w;subst L;unfold Aa;rw[B];simp only;rw[if_pos ⟨hp,p,F,A⟩,I];unfold vV;simp only[K,G,J];match c with
  | 0=>rfl
  | 1=>exact(e rfl).elim
  | k+2=>rfl
 have XQ : ∀m,n<=m->eG E (ck E m) dep (.yld r) args H=some (.v (.bool (c == 0)),H1.put r (some (dW c d))):=key;refine⟨_,_,qJ.2 ⟨n,XQ⟩,?_⟩;match c with
 | 0=>exact l rfl
 | 1=>exact(e rfl).elim
 | k+2=>exact q (by omega)
def GY{E:Env}{fn:Func}{dep:Nat}{g:Operand}{ps:Array Tmp}{assign body:Code}{k:List Item}{s:ed}{H:aa}{Q:AV->aa->Prop}{gi:FuncId}{first captured:List AV}
 (G:cK s g=some (.fn (.func gi) first captured))
 (h : ∀tm,eB tm s ->∃v c st d,cD E dep (.fn gi) (first++[.yld ⟨dep,fn.ntmps,H.gen dep fn.ntmps,0⟩]++captured) ((⟨dep,fn.ntmps,H.gen dep fn.ntmps,0⟩,some (dW 0 (.lp 0 fn.ntmps ps.toList assign body tm))) :: H)=some (v,c) /\
  xq c ⟨dep,fn.ntmps,H.gen dep fn.ntmps,0⟩=some (st,d) /\
  (
   (st=0/\tS E fn none dep k s (c.put ⟨dep,fn.ntmps,H.gen dep fn.ntmps,0⟩ none) Q) \/
   (st=2/\FD E.P s (c.put ⟨dep,fn.ntmps,H.gen dep fn.ntmps,0⟩ none) Q fn.results.toList []) \/
   (∃id k',st=id+3/\exitTo id k=some k'/\tS E fn none dep k' s (c.put ⟨dep,fn.ntmps,H.gen dep fn.ntmps,0⟩ none) Q))) :
 tS E fn none dep (.code (.rangeFunc g ps assign body) :: k) s H Q:=by
 intro tm n;obtain⟨v,c,st,d,B,w,A⟩:=h tm n;obtain⟨n1,j⟩:=qJ.1 B;have f:aL tm g=some (.fn (.func gi) first captured):=by rw[uL n];exact G
 rcases A with ⟨rfl,l⟩ | ⟨rfl,l⟩ | ⟨id,k',rfl,he,l⟩
 ·obtain⟨y,H',p,n2,i⟩:=l tm n;refine⟨y,H',p,max n1 n2+1,λm z=>?_⟩;obtain⟨m,rfl⟩ : ∃q,m=q+1:=⟨m - 1,by omega⟩;have e:ck E (m+1) none fn.ntmps dep (.code (.rangeFunc g ps assign body) :: k) ⟨tm,H⟩=ck E m none fn.ntmps dep k ⟨tm,c.put ⟨dep,fn.ntmps,H.gen dep fn.ntmps,0⟩ none⟩:=(by simp only[ck,f,j m (by omega),w]);rw[e];exact i m (by omega)
 ·obtain⟨y,p,F⟩:=Ld l;refine⟨y,_,p,n1+1,λm z=>?_⟩;obtain⟨m,rfl⟩ : ∃q,m=q+1:=⟨m - 1,by omega⟩;have e:ck E (m+1) none fn.ntmps dep (.code (.rangeFunc g ps assign body) :: k) ⟨tm,H⟩=some ⟨tm,c.put ⟨dep,fn.ntmps,H.gen dep fn.ntmps,0⟩ none⟩:=(by simp only[ck,f,j m (by omega),w]);rw[e];exact⟨_,rfl,F tm n,rfl⟩
 obtain⟨y,H',p,n2,i⟩:=l tm n;refine⟨y,H',p,max n1 n2+1,λm z=>?_⟩;obtain⟨m,rfl⟩ : ∃q,m=q+1:=⟨m - 1,by omega⟩;have e:ck E (m+1) none fn.ntmps dep (.code (.rangeFunc g ps assign body) :: k) ⟨tm,H⟩=ck E m none fn.ntmps dep k' ⟨tm,c.put ⟨dep,fn.ntmps,H.gen dep fn.ntmps,0⟩ none⟩:=(by simp only[ck,f,j m (by omega),w,he]);rw[e];exact i m (by omega)
def RA{E:Env}{f:FuncId}{args:List AV}{y:AV}(h:E.spec f args=some y):ay E f args=some y:=by
 rw[tM];exact⟨0,λm _=>by unfold cY;rw[h]⟩
def UK{E:Env}{f:FuncId}{args:List AV}{y:AV}(h:ay E f args=some y) : ∃n,cY E (ck E n) f args=some y:=by
 obtain⟨n,c⟩:=tM.1 h;exact⟨n,c n (bg _)⟩
def ph(r:Nat):Nat->List Item->Option (List Item)
 | 0,_=>none
 | n+1,items=>
  match items with
  | .code c :: k=>(match c with
   | .seq a b=>ph r n (.code a :: .code b :: k)
   | .cond _ a b=>(match ph r n (.code a :: k) with
    | some l=>some l
    | none=>ph r n (.code b :: k))
   | .block id b=>ph r n (.code b :: .inBlock id :: k)
   | .scope b=>ph r n (.code b :: .inScope b :: k)
   | .loop b=>(match lF b with
    | some i=>cond (Nat.beq i r) (some (.inLoop b :: k)) (ph r n (.code b :: .inLoop b :: k))
    | none=>none)
   | .exit id=>(match exitTo id k with
    | some k'=>ph r n k'
    | none=>none)
   | .skip | .label _ | .region _ _ _=>ph r n k
   | _=>none)
  | .inBlock _ :: k | .inScope _ :: k=>ph r n k
  | _=>none
def k6(r:Nat):Nat->List Item->Option (List Item)
 | 0,_=>none
 | n+1,items=>
  match items with
  | .code c :: k=>(match c with
   | .seq a b=>k6 r n (.code a :: .code b :: k)
   | .cond _ a b=>(match k6 r n (.code a :: k) with
    | some l=>some l
    | none=>k6 r n (.code b :: k))
   | .block id b=>k6 r n (.code b :: .inBlock id :: k)
   | .scope b=>k6 r n (.code b :: .inScope b :: k)
   | .loop b=>k6 r n (.code b :: .inLoop b :: k)
   | .exit id=>(match exitTo id k with
    | some k'=>k6 r n k'
    | none=>none)
   | .rangeFunc _ _ a b=>cond (Nat.beq (Y8 a b) r) (some items) (k6 r n k)
   | .skip | .label _ | .region _ _ _=>k6 r n k
   | _=>none)
  | .inBlock _ :: k | .inScope _ :: k=>k6 r n k
  | _=>none
def rfA:List Item->Code
 | .code (.rangeFunc _ _ a _) :: _=>a
 | _ => .skip
def rfB:List Item->Code
 | .code (.rangeFunc _ _ _ b) :: _=>b
 | _ => .skip
def rfK:List Item->List Item
 | _ :: k=>k
 | []=>[]
def OV:List Item->List Item
 | .inLoop b :: k => .code b :: .inLoop b :: k
 | l=>l
def qQ{E:Env}{fn:Func}{rd:Option Ref}{dep:Nat}{c:List Item}{l:List (Nat × AV)}{H:aa}{Q:AV->aa->Prop}(h : ∀g,tS E fn rd dep (OV c) (MP g l) H Q):V6 E fn rd dep c l H Q:=by
 refine⟨λg=>?_⟩;have:=h g;unfold OV at this;split at this;·exact RO this
 exact this
def oi(x:AV):Option (Option Int):=match tC x with
 | some n=>some (some n)
 | none=>none
end
section
def Sj(pc c:FuncId->List AV->Option AV):Prop :=∀f d y,pc f d=some y->c f d=some y
def VN(tc c:tE->List AV->aa->cJ):Prop :=∀f d H y,tc f d H=some y->c f d H=some y
def NY{E:Env}{pc c:FuncId->List AV->Option AV}(hp:Sj pc c){g:cL}{r:Ref}{f:Option AV}{args:List AV}{z:AV × List aY}(h:kT E pc g r f args=some z):kT E c g r f args=some z:=by
 unfold kT at h ⊢;split at h
 ·split at h;·cases h
  rename_i d;rw[if_neg d];split at h
  ·rename_i j i;split at h;·rename_i y e;rw[hp _ _ _ e];exact h
   cases h
  cases h
 cases h
def Ub{E:Env}{pc c:FuncId->List AV->Option AV}{tc g:tE->List AV->aa->cJ}(hp:Sj pc c)(i:VN tc g){H:aa}{r:Ref}{f:Option AV}{args:List AV} :
 (kT E pc H.get r f args=none ->∀z,nc E pc tc H r f args=some z->nc E c g H r f args=some z/\kT E c H.get r f args=none):=by
 intro d z h;unfold kT at d ⊢;unfold nc at h ⊢;split at h
 ·rename_i n first captured
  dsimp only at d ⊢;split at h;·rename_i e;rw[if_pos e,if_pos e];exact⟨i _ _ _ _ h,rfl⟩
  rename_i e;rw[if_neg e]at d;rw[if_neg e,if_neg e];split at h
  ·rename_i m l;try rw[l]at d
   dsimp only at d ⊢;simp only[bG]at h;obtain⟨y,j,h⟩:=h;rw[j]at d;rw[hp _ _ _ j];exact⟨by rw[Option.map_some,h],d⟩
  cases h
 ·exact⟨i _ _ _ _ h,rfl⟩
 cases h
def Mg{E:Env}{pc d:FuncId->List AV->Option AV}{tc i:tE->List AV->aa->cJ}(hp:Sj pc d)(I:VN tc i){dep:Nat}{u:Bool}{tm:List AV}{H:aa}{o:Oper}{z:AV × aa}
 (h:n9 E pc tc dep u tm H o=some z):n9 E d i dep u tm H o=some z:=by
 by_cases B : ∃c f args,o.op = .call c/\c.args.toList.mapM (aL tm)=some args/\c.callee = .value f
 ·obtain⟨c,f,args,m,v,q⟩:=B;unfold n9 cI evalW at h ⊢;simp only[m,v,q]at h ⊢;cases l:Eh E.qC u f with
  | some t=>
   rw[l]at h;dsimp only at h ⊢;cases J:Gx E.P H.get t args with
   | some p=>rw[J]at h;exact h
   | none=>
    rw[J]at h;dsimp only at h ⊢;split at h;·cases h
    rename_i hd;rw[if_neg hd];have A : ∃g,f = .func g:=by unfold Eh at l;split at l<;>simp_all
    obtain⟨g,rfl⟩:=A;simp only[aL,nc]at h ⊢;by_cases G:E.mode g=2
    ·rw[if_pos G]at h ⊢;cases j:tc (.fn g) ([]++args++[]) H with
     | none=>rw[j]at h;unfold rD at h;split at h<;>(try split at h)<;>simp_all
     | some M=>rw[j]at h;rw[I _ _ _ _ j];exact h
    rw[if_neg G]at h ⊢;cases F:([]++args++[]:List AV).mapM (view H.get depth) with
    | none=>rw[F]at h;exact h
    | some xs=>
     rw[F]at h;dsimp only at h ⊢;cases w:pc g xs with
     | none=>rw[w]at h;unfold rD at h;split at h<;>(try split at h)<;>simp_all
     | some y=>rw[w]at h;rw[hp _ _ _ w];exact h
  | none=>
  rw[l]at h;dsimp only at h ⊢;cases n:kT E pc H.get ⟨dep,o.dst.getD 0,H.gen dep (o.dst.getD 0),0⟩ (aL tm f) args with
  | some p=>rw[n]at h;rw[NY hp n];exact h
  | none=>
   rw[n]at h;simp only[zh]at h;split at h;·cases h
   rename_i hd;cases j:nc E pc tc H ⟨dep,o.dst.getD 0,H.gen dep (o.dst.getD 0),0⟩ (aL tm f) args with
   | none=>
    rw[j]at h;unfold rD at h;split at h;·rename_i e;cases e
    cases h
   | some M=>obtain⟨K,L⟩:=Ub hp I n _ j;rw[L,K];rw[j]at h;simp only[zh,if_neg hd];exact h
 have:n9 E pc tc dep u tm H o=n9 E d i dep u tm H o:=by
  have n:cI E pc u H.get tm ⟨dep,o.dst.getD 0,H.gen dep (o.dst.getD 0),0⟩ o=cI E d u H.get tm ⟨dep,o.dst.getD 0,H.gen dep (o.dst.getD 0),0⟩ o:=by
   cases m:o.op<;>simp only[cI,m];case makeMap a b=>cases b<;>rfl
   rename_i c;cases v:c.args.toList.mapM (aL tm) with
   | none=>rfl
   | some args=>
    cases q:c.callee with| value f=>exact(B ⟨c,f,args,m,v,q⟩).elim| invoke _ _=>rfl| builtin b=>rfl
  have j:evalW E pc tc H tm ⟨dep,o.dst.getD 0,H.gen dep (o.dst.getD 0),0⟩ o=evalW E d i H tm ⟨dep,o.dst.getD 0,H.gen dep (o.dst.getD 0),0⟩ o:=by
   cases m:o.op<;>simp only[evalW,m];rename_i c;cases v:c.args.toList.mapM (aL tm) with| none=>rfl| some args=>
    cases q:c.callee with
    | value f=>exact(B ⟨c,f,args,m,v,q⟩).elim
    | invoke _ _=>rfl
    | builtin b=>rfl
  unfold n9;rw[n,j]
 rw[<-this];exact h
def OG{E:Env}{pc d:FuncId->List AV->Option AV}{tc c:tE->List AV->aa->cJ}(hp:Sj pc d)(e:VN tc c){dep:Nat}{u:Bool}{tm:List AV}{H:aa}{o:Oper}{z:AV × aa}
 (h:xu E pc tc dep u tm H o=some z):xu E d c dep u tm H o=some z:=by
 unfold xu at h ⊢;cases hd:Et E u H tm ⟨dep,o.dst.getD 0,H.gen dep (o.dst.getD 0),0⟩ o with
 | some w=>rw[hd]at h;exact h
 | none=>rw[hd]at h;exact Mg hp e h
def Lb{E:Env}{pc e:FuncId->List AV->Option AV}{tc d:tE->List AV->aa->cJ}(hp:Sj pc e)(i:VN tc d){nt dep:Nat}{u:Bool}{ops:Array Oper} : ∀ {l:List Oper} {st st':St},
 nw E pc tc nt dep u ops l st=some st'->nw E e d nt dep u ops l st=some st':=by
 intro l;induction l with
 | nil=>intro st st' h;exact h
 | cons o l j=>
  intro st st' h;unfold nw at h ⊢;cases c:yQ E pc tc nt dep u ops o st with
  | none=>rw[c]at h;cases h
  | some f=>
   rw[c]at h;have:yQ E e d nt dep u ops o st=some f:=by
    rw[J8]at c ⊢;cases hw:wanted ops st.tm o with
    | none=>rw[hw]at c;cases c
    | some b=>
     rw[hw]at c;cases b with
     | false=>exact c
     | true=>
      dsimp only at c ⊢;cases g:xu E pc tc dep u st.tm st.hp o with
      | none=>rw[g]at c;cases c
      | some z=>rw[g]at c;rw[OG hp i g];exact c
   rw[this];exact j h
def Ev{E:Env}{run e:Option Ref->Nat->Nat->List Item->St->Option St}(m : ∀rd nt dep d st st',run rd nt dep d st=some st'->e rd nt dep d st=some st'){dep:Nat}{f:FuncId}{args:List AV}{H:aa}{z:AV × aa}
 (h:tl E run dep f args H=some z):tl E e dep f args H=some z:=by
 unfold tl at h ⊢;split at h
 ·rename_i n;rw[if_pos n];cases j:E.P.funcs[f]? with
  | none=>rw[j]at h;cases h
  | some fn=>
   rw[j]at h;dsimp only at h ⊢;cases i:fn.body with
   | none=>rw[i]at h;cases h
   | some c=>
    rw[i]at h;dsimp only at h ⊢;split at h
    ·rename_i l;rw[if_pos l];cases g:run none fn.ntmps dep [.code c] ⟨args,H⟩ with
     | none=>rw[g]at h;cases h
     | some st=>rw[g]at h;rw[m _ _ _ _ _ _ g];exact h
    cases h
 cases h
def AQ{E:Env}{run d:Option Ref->Nat->Nat->List Item->St->Option St}(j : ∀rd nt dep c st st',run rd nt dep c st=some st'->d rd nt dep c st=some st'):Sj (cY E run) (cY E d):=by
 intro f i y h;unfold cY at h ⊢;cases g:E.spec f i with
 | some s=>rw[g]at h;exact h
 | none=>
  rw[g]at h;dsimp only at h ⊢;cases e:tl E run 0 f i [] with
  | none=>rw[e]at h;cases h
  | some z=>rw[e]at h;rw[Ev j e];exact h
def Ca{E:Env}{run d:Option Ref->Nat->Nat->List Item->St->Option St}(j : ∀rd nt dep c st st',run rd nt dep c st=some st'->d rd nt dep c st=some st')(dep:Nat):VN (eG E run dep) (eG E d dep):=by
 intro f i H y h;unfold eG at h ⊢;cases f with
 | fn f=>
  dsimp only at h ⊢;cases g:E.thrSpec f i H with
  | some s=>rw[g]at h;exact h
  | none=>
  rw[g]at h;dsimp only at h ⊢;split at h;·rename_i l;rw[if_pos l];exact Ev j h
  cases h
 | yld r=>
  dsimp only at h ⊢;unfold Aa at h ⊢;split at h
  ·rename_i f nt ps assign body tm n;split at h
   ·rename_i m;rw[if_pos m];cases e:run (some r) nt (dep+1) [.code assign,.beginRound,.code body] ⟨uA tm ps i,H⟩ with
    | none=>rw[e]at h;cases h
    | some st=>rw[e]at h;rw[j _ _ _ _ _ _ e];exact h
   cases h
  cases h
def Q7{E:Env} : ∀(n:Nat)(rd:Option Ref)(nt dep:Nat)(d:List Item)(st st':St),ck E n rd nt dep d st=some st'->ck E (n+1) rd nt dep d st=some st':=by
 intro n;induction n with
 | zero=>intro rd nt dep d st st' h;simp[ck]at h
 | succ n e=>
  intro rd nt dep d st st' h;unfold ck at h ⊢;split at h;·exact h
  ·split at h;·exact h
   rename_i r;split at h;·exact e _ _ _ _ _ _ h
   cases h
  ·split at h;all_goals try exact h
   all_goals try exact e _ _ _ _ _ _ h
   ·rename_i c a b;split at h;·exact e _ _ _ _ _ _ h
    ·exact e _ _ _ _ _ _ h
    cases h
   ·split at h;·exact e _ _ _ _ _ _ h
    exact h
   ·rename_i ops u;cases f:nw E (cY E (ck E n)) (eG E (ck E n) dep) nt dep u ops ops.toList st with
    | none=>rw[f]at h;cases h
    | some g=>
     rw[f]at h;rw[Lb (AQ e) (Ca e dep) f];dsimp only at h ⊢;split at h;·cases h
     rename_i hd;rw[if_neg hd];exact e _ _ _ _ _ _ h
   split at h
   ·split at h
    ·rename_i x H' f;rw[Ca e dep _ _ _ _ f];dsimp only;split at h;·exact e _ _ _ _ _ _ h
     ·exact h
     ·split at h;·exact e _ _ _ _ _ _ h
      cases h
     cases h
    cases h
   cases h
  all_goals try exact e _ _ _ _ _ _ h
  all_goals cases h
def W8{E:Env}{n m:Nat}(d:n<=m){rd:Option Ref}{nt dep:Nat}{c:List Item}{st st':St}(h:ck E n rd nt dep c st=some st'):ck E m rd nt dep c st=some st':=by
 induction d with| refl=>exact h| step _ e=>exact Q7 _ _ _ _ _ _ _ e
def LJ{E:Env}{n:Nat}{f:FuncId}{args:List AV}{y:AV}(h:cY E (ck E n) f args=some y):ay E f args=some y:=
 tM.2 ⟨n,λ_ c=>AQ (λ_ _ _ _ _ _ h=>W8 c h) _ _ _ h⟩
end
section
abbrev aI(n:Int):AV := .v (.int .i64 n)
abbrev aB(b:Bool):AV := .v (.bool b)
def a8(n:UInt8):AV := .v (.int .u8 (n.toNat:Int))
def bO(n:UInt32):AV := .v (.int .u32 (n.toNat:Int))
abbrev aS(s:ByteArray):AV := .v (.string s)
abbrev aO:AV := .v (.slice none 0 0)
def abS{q:jl}{K:AV->Prop}{m:Mk K}{v:AV}(c:q=some (v,[]))(h:K v):dL q K m:=⟨v,c,h⟩
def tk{w:cJ}{K:AV->aa->Prop}{m:Mk K}{v:AV}{H:aa}(c:w=some (v,H))(h:K v H):gh w K m:=⟨v,H,c,h⟩
@[simp] def afz(v:AV)(K:AV->Prop)(m:Mk K):dL (some (v,[])) K m↔K v:=
 ⟨λ⟨⟨w,hw,h⟩⟩=>by cases hw;exact h,λh=>⟨v,rfl,h⟩⟩
@[simp] def ahE(c:Prop)[Decidable c](q:jl)(K:AV->Prop)(m:Mk K):dL (if c then q else none) K m↔c/\dL q K m:=by
 by_cases d:c;·simp[d]
 simp only[if_neg d,d,false_and,iff_false];rintro⟨v,e,_⟩;cases e
@[simp] def afy(v:AV)(H:aa)(K:AV->aa->Prop)(m:Mk K):gh (some (v,H)) K m↔K v H:=
 ⟨λ⟨⟨w,_,hw,h⟩⟩=>by cases hw;exact h,λh=>⟨v,H,rfl,h⟩⟩
@[simp] def ahD(c:Prop)[Decidable c](q:cJ)(K:AV->aa->Prop)(m:Mk K):gh (if c then q else none) K m↔c/\gh q K m:=by
 by_cases d:c;·simp[d]
 simp only[if_neg d,d,false_and,iff_false];rintro⟨v,_,e,_⟩;cases e
def Qf{x:Option AV}{A B:Prop}{m:Mk (A,B)}:br x A B m↔brP x A B:=⟨λh=>h.h,λh=>⟨h⟩⟩
@[simp] def ahd(A B:Prop)(m:Mk (A,B)):br (some (aB true)) A B m↔A:=Qf
@[simp] def afH(A B:Prop)(m:Mk (A,B)):br (some (aB false)) A B m↔B:=Qf
def qT{b:Bool}{A B:Prop}{m:Mk (A,B)}(d:b=true->A)(c:b=false->B):br (some (aB b)) A B m:=by
 cases b;·exact⟨c rfl⟩
 exact⟨d rfl⟩
@[simp] def afn(q:jl)(K:AV->Prop)(m:Mk (q,K)):gQ (aB true) true q K m↔dL q K:=⟨λh=>h.h,λh=>⟨h⟩⟩
@[simp] def afq(q:jl)(K:AV->Prop)(m:Mk (q,K)):gQ (aB false) false q K m↔dL q K:=⟨λh=>h.h,λh=>⟨h⟩⟩
@[simp] def afo(q:jl)(K:AV->Prop)(m:Mk (q,K)):gQ (aB true) false q K m↔K AV.undef:=⟨λh=>h.h,λh=>⟨h⟩⟩
@[simp] def afp(q:jl)(K:AV->Prop)(m:Mk (q,K)):gQ (aB false) true q K m↔K AV.undef:=⟨λh=>h.h,λh=>⟨h⟩⟩
@[simp] def ahY(w:Bool)(q:jl)(K:AV->Prop)(m:Mk (q,K)):gQ AV.undef w q K m↔K AV.undef:=⟨λh=>h.h,λh=>⟨h⟩⟩
@[simp] def afj(H:aa)(q:cJ)(K:AV->aa->Prop)(m:Mk (q,K)):gW (aB true) true H q K m↔gh q K:=⟨λh=>h.h,λh=>⟨h⟩⟩
@[simp] def afm(H:aa)(q:cJ)(K:AV->aa->Prop)(m:Mk (q,K)):gW (aB false) false H q K m↔gh q K:=⟨λh=>h.h,λh=>⟨h⟩⟩
@[simp] def afk(H:aa)(q:cJ)(K:AV->aa->Prop)(m:Mk (q,K)):gW (aB true) false H q K m↔K AV.undef H:=⟨λh=>h.h,λh=>⟨h⟩⟩
@[simp] def afl(H:aa)(q:cJ)(K:AV->aa->Prop)(m:Mk (q,K)):gW (aB false) true H q K m↔K AV.undef H:=⟨λh=>h.h,λh=>⟨h⟩⟩
@[simp] def ahX(w:Bool)(H:aa)(q:cJ)(K:AV->aa->Prop)(m:Mk (q,K)):gW AV.undef w H q K m↔K AV.undef H:=⟨λh=>h.h,λh=>⟨h⟩⟩
@[simp] def acH(v:AV):jI (some v)=some (v,[]):=id rfl
@[simp] def ac4(H:aa)(r:Ref)(v:AV)(bs:List aY):lD H r (some (v,bs))=some (v,keyed r 0 bs H):=id rfl
@[simp] def DH(H:aa)(r:Ref):lD H r none=none:=id rfl
@[simp] def abl(r:Ref)(k:Nat)(H:aa):keyed r k [] H=H:=id rfl
@[simp] def abm(r:Ref)(k:Nat)(b:aY)(bs:List aY)(H:aa):keyed r k (b :: bs) H=keyed r (k+1) bs (({ r with k:=k},some b) :: H):=id rfl
@[simp] def aeJ(c:Bool)(x:AV × aa)(b:cJ):Ei c (some x) b=some x:=id rfl
@[simp] def GH(b:cJ):Ei true none b=b:=id rfl
@[simp] def aa3(a b:Option AV):zt (some (aB true)) a b=jI a:=id rfl
@[simp] def Zf(a b:Option AV):zt (some (aB false)) a b=jI b:=id rfl
@[simp] def ahv(k:IntKind)(n:Int):oi (.v (.int k n))=some (some n):=id rfl
@[simp] def adv(cs:List AV):(AV.agg cs).cells=cs:=id rfl
@[simp] def ag4(x:Value):(AV.v x).cells=[.v x]:=id rfl
@[simp] def ag5(x:UInt8):(a8 x).cells=[a8 x]:=id rfl
@[simp] def afE(x:UInt32):(bO x).cells=[bO x]:=id rfl
@[simp] def adt(z:Nat)(es:List AV)(c:Option Nat):(AV.bq z es c).cells=[.bq z es c]:=id rfl
@[simp] def ads(r:Ref)(o n:Nat)(c:Option Nat):(AV.bA r o n c).cells=[.bA r o n c]:=id rfl
@[simp] def afD(f:Fn)(a b:List AV):(AV.fn f a b).cells=[.fn f a b]:=id rfl
@[simp] def agK(k:IntKind)(n:Int):(AV.v (.int k n)).one=true:=id rfl
@[simp] def aeK(b:Bool):(AV.v (.bool b)).one=true:=id rfl
@[simp] def agI:aO.one=true:=id rfl
@[simp] def ahS(x:UInt8):(a8 x).one=true:=id rfl
@[simp] def ahu(x:UInt32):(bO x).one=true:=id rfl
@[simp] def agJ(z:Nat)(es:List AV)(c:Option Nat):(AV.bq z es c).one=true:=id rfl
@[simp] def agH(r:Ref)(o n:Nat)(c:Option Nat):(AV.bA r o n c).one=true:=id rfl
section
variable(P:Program)(t:TypeId)(D C:Operand)(k:IntKind)(a b:Int)
@[simp] theorem Ud:bN P .lss t D C (some (.v (.int k a))) (some (.v (.int k b)))=some (aB (decide (a<b)),[]):=by cases k<;>rfl
@[simp] theorem Ue:bN P .leq t D C (some (.v (.int k a))) (some (.v (.int k b)))=some (aB (decide (a<=b)),[]):=by cases k<;>rfl
@[simp] theorem Uf:bN P .gtr t D C (some (.v (.int k a))) (some (.v (.int k b)))=some (aB (decide (b<a)),[]):=by cases k<;>rfl
@[simp] theorem Ug:bN P .geq t D C (some (.v (.int k a))) (some (.v (.int k b)))=some (aB (decide (b<=a)),[]):=by cases k<;>rfl
@[simp] theorem Uh:bN P .eql t D C (some (.v (.int k a))) (some (.v (.int k b)))=some (aB (decide (a=b)),[]):=by
 have:(a == b)=decide (a=b):=by by_cases h:a=b<;>simp[h]
 rw[<-this];cases k<;>rfl
@[simp] theorem aeD:bN P .neq t D C (some (.v (.int k a))) (some (.v (.int k b)))=some (aB (!decide (a=b)),[]):=by
 have:(a != b) = !decide (a=b):=by by_cases h:a=b<;>simp[h]
 rw[<-this];cases k<;>rfl
@[simp] theorem Ui:bN P .add t D C (some (.v (.int k a))) (some (.v (.int k b)))=some (.v (.int k (k.wrap (a+b))),[]):=by cases k<;>rfl
@[simp] theorem aeC:bN P .sub t D C (some (.v (.int k a))) (some (.v (.int k b)))=some (.v (.int k (k.wrap (a - b))),[]):=by cases k<;>rfl
@[simp] theorem aeE:bN P .mul t D C (some (.v (.int k a))) (some (.v (.int k b)))=some (.v (.int k (k.wrap (a * b))),[]):=by cases k<;>rfl
theorem qB(c:b≠0):bN P .quo t D C (some (.v (.int k a))) (some (.v (.int k b)))=some (.v (.int k (k.wrap (a.tdiv b))),[]):=by
 have h:Op.intDiv .quo k a b=pure (.int k (k.wrap (a.tdiv b))):=by unfold Op.intDiv;rw[if_neg c]
 have d:vv P .quo t D C (.int k a) (.int k b)=some (.int k (k.wrap (a.tdiv b))):=by
  have:vv P .quo t D C (.int k a) (.int k b)=bD P (Op.intDiv .quo k a b):=by cases k<;>rfl
  rw[this,h];rfl
 simp only[bN,EN,jJ,kr,d,pE,zb,gj,iQh,dX,iE,scalar,if_true,jI,Option.map_some]
theorem pa(c:b≠0):bN P .rem t D C (some (.v (.int k a))) (some (.v (.int k b)))=some (.v (.int k (a.tmod b)),[]):=by
 have h:Op.intDiv .rem k a b=pure (.int k (a.tmod b)):=by unfold Op.intDiv;rw[if_neg c]
 have d:vv P .rem t D C (.int k a) (.int k b)=some (.int k (a.tmod b)):=by
  have:vv P .rem t D C (.int k a) (.int k b)=bD P (Op.intDiv .rem k a b):=by cases k<;>rfl
  rw[this,h];rfl
 simp only[bN,EN,jJ,kr,d,pE,zb,gj,iQh,dX,iE,scalar,if_true,jI,Option.map_some]
theorem Ck{c:IntKind}(e:0<=b):bN P .shl t D C (some (.v (.int k a))) (some (.v (.int c b)))=some (.v (.int k (k.wrap (a * 2 ^ min b.toNat k.bits))),[]):=by
 have h:Op.shift .shl k a c b=pure (.int k (k.wrap (a * 2 ^ min b.toNat k.bits))):=by unfold Op.shift;rw[if_neg (by omega)]
 have d:vv P .shl t D C (.int k a) (.int c b)=some (.int k (k.wrap (a * 2 ^ min b.toNat k.bits))):=by
  have:vv P .shl t D C (.int k a) (.int c b)=bD P (Op.shift .shl k a c b):=rfl;rw[this,h];rfl
 simp only[bN,EN,jJ,kr,d,pE,zb,gj,iQh,dX,iE,scalar,if_true,jI,Option.map_some]
theorem dI{c:IntKind}(e:0<=b):bN P .shr t D C (some (.v (.int k a))) (some (.v (.int c b)))=some (.v (.int k (a.fdiv (2 ^ min b.toNat k.bits))),[]):=by
 have h:Op.shift .shr k a c b=pure (.int k (a.fdiv (2 ^ min b.toNat k.bits))):=by unfold Op.shift;rw[if_neg (by omega)]
 have d:vv P .shr t D C (.int k a) (.int c b)=some (.int k (a.fdiv (2 ^ min b.toNat k.bits))):=by
  have:vv P .shr t D C (.int k a) (.int c b)=bD P (Op.shift .shr k a c b):=rfl;rw[this,h];rfl
 simp only[bN,EN,jJ,kr,d,pE,zb,gj,iQh,dX,iE,scalar,if_true,jI,Option.map_some]
@[simp] theorem agA(b:Bool):Xj P .not (some (aB b))=some (aB (!b),[]):=id rfl
def u8(n:Int):UInt8:=UInt8.ofBitVec (BitVec.ofInt 8 n)
def u32(n:Int):UInt32:=UInt32.ofBitVec (BitVec.ofInt 32 n)
@[simp] theorem YU(n:Int):IntKind.u8.wrap n=((u8 n).toNat:Int):=by
 unfold u8;rw[IntKind.wrap_u8,iQP,Fu];omega
@[simp] theorem EU(n:Int):IntKind.u32.wrap n=((u32 n).toNat:Int):=by
 unfold u32;rw[IntKind.wrap_u32,iQH,Fu];omega
theorem pJ(n:Int):(u8 n).toNat=(n % 256).toNat:=by
 unfold u8;rw[iQP,Fu];rfl
theorem ur(n:Int):(u32 n).toNat=(n % 4294967296).toNat:=by
 unfold u32;rw[iQH,Fu];rfl
@[simp] theorem ahl(x:UInt8):u8 (x.toNat:Int)=x:=by apply yC.1;rw[pJ];have:=x.toNat_lt;omega
@[simp] theorem Wn(x:UInt32):u32 (x.toNat:Int)=x:=by apply MT.1;rw[ur];have:=x.toNat_lt;omega
@[simp] theorem SZ(x:UInt8):u32 (x.toNat:Int)=x.toUInt32:=by apply MT.1;rw[ur,UInt8.toNat_toUInt32];have:=x.toNat_lt;omega
@[simp] theorem adJ(x:UInt32):u8 (x.toNat:Int)=x.toUInt8:=by apply yC.1;rw[pJ,UInt32.toNat_toUInt8];omega
@[simp] theorem ahm(n:Nat):u8 (no_index (OfNat.ofNat n))=OfNat.ofNat n:=by
 apply yC.1;rw[pJ,show(OfNat.ofNat n:UInt8)=UInt8.ofNat n from rfl,UInt8.toNat_ofNat',show(OfNat.ofNat n:Int)=(n:Int) from rfl];omega
@[simp] theorem afh(x:UInt8):IntKind.i64.wrap (x.toNat:Int)=x.toNat:=by have:=x.toNat_lt;exact iQa _ (by omega)
@[simp] theorem abB(x:UInt32):IntKind.i64.wrap (x.toNat:Int)=x.toNat:=by have:=x.toNat_lt;exact iQa _ (by omega)
theorem ab3(v:BitVec 32):IntKind.u32.wrap (v.toNat:Int)=((UInt32.ofBitVec v).toNat:Int):=by
 rw[EU];unfold u32;congr 3;apply BitVec.eq_of_toNat_eq;rw[Fu];have:=v.isLt;omega
theorem ab0(op:BinOp)(f:BitVec 32->BitVec 32->BitVec 32)(g:UInt32->UInt32->UInt32)(d : ∀x y,g x y=UInt32.ofBitVec (f x.toBitVec y.toBitVec))(c : ∀x y:Int,bN P op t D C (some (.v (.int .u32 x))) (some (.v (.int .u32 y)))=some (.v (.int .u32 (IntKind.u32.wrap ((f (BitVec.ofInt 32 x) (BitVec.ofInt 32 y)).toNat:Int))),[])) :
 bN P op t D C (some (.v (.int .u32 a))) (some (.v (.int .u32 b)))=some (bO (g (u32 a) (u32 b)),[]):=by
 rw[c,ab3,d];rfl
section
variable(x y:UInt8)
@[simp] theorem acN:bN P .lss t D C (some (a8 x)) (some (a8 y))=some (aB (decide (x<y)),[]):=by
 unfold a8;rw[Ud];congr 4;rw[iQI];all_goals exact propext (by omega)
@[simp] theorem acO:bN P .leq t D C (some (a8 x)) (some (a8 y))=some (aB (decide (x<=y)),[]):=by
 unfold a8;rw[Ue];congr 4;rw[iQJ];all_goals exact propext (by omega)
@[simp] theorem acP:bN P .gtr t D C (some (a8 x)) (some (a8 y))=some (aB (decide (y<x)),[]):=by
 unfold a8;rw[Uf];congr 4;rw[iQI];all_goals exact propext (by omega)
@[simp] theorem acQ:bN P .geq t D C (some (a8 x)) (some (a8 y))=some (aB (decide (y<=x)),[]):=by
 unfold a8;rw[Ug];congr 4;rw[iQJ];all_goals exact propext (by omega)
@[simp] theorem acR:bN P .eql t D C (some (a8 x)) (some (a8 y))=some (aB (decide (x=y)),[]):=by
 unfold a8;rw[Uh];congr 4;rw[<-yC];all_goals exact propext (by omega)
@[simp] theorem acS:bN P .add t D C (some (a8 x)) (some (a8 y))=some (a8 (x+y),[]):=by
 unfold a8;rw[Ui,YU];congr 5
end
section
variable(x y:UInt32)
@[simp] theorem acM:bN P .or t D C (some (bO x)) (some (bO y))=some (bO (x ||| y),[]):=by
 unfold bO;rw[ab0 P t D C _ _ .or (· ||| ·) (· ||| ·) (λ_ _=>rfl) (λ_ _=>rfl)];simp only[Wn];rfl
end
@[simp] theorem aaW{d:IntKind}(x:UInt32)(f:0<=b/\b<32):bN P .shl t D C (some (bO x)) (some (.v (.int d b)))=some (bO (x <<< UInt32.ofNat b.toNat),[]):=by
 unfold bO;rw[Ck P t D C .u32 _ b f.1,EU];congr 5;have c:min b.toNat IntKind.u32.bits=b.toNat:=by show min b.toNat 32=_;omega
 have g:=x.toNat_lt;rw[c,ur,Jk,UInt32.toNat_ofNat',Je];have e:b.toNat % 2 ^ 32 % 32=b.toNat:=by omega
 rw[e];have:((x.toNat:Int) * 2 ^ b.toNat)=((x.toNat * 2 ^ b.toNat:Nat):Int):=by push_cast;rfl
 rw[this];omega
theorem nT{P:Program}{t:TypeId}{d:TypeDesc}(h:P.underlying t=some d):bD P (Go.underlying t)=some d:=by
 unfold Go.underlying;rw[bT];show(some P).bind _=_;rw[dX,h];rfl
def intKind(P:Program)(t:TypeId):Option IntKind:=match P.underlying t with | some (.int k)=>some k | _=>none
theorem CC{P:Program}{t:TypeId}{k:IntKind}(h:intKind P t=some k):P.underlying t=some (.int k):=by
 unfold intKind at h;split at h;·cases h;assumption
 cases h
theorem oq{g:cL}{r:Ref}{src dst:TypeId}{k':IntKind}(c:(P.underlying src).isNone=false)(hd:intKind P dst=some k)(n:Int) :
 bX P g r src dst (some (.v (.int k' n)))=some (.v (.int k (k.wrap n)),[]):=by
 have hd:=CC hd;obtain⟨d,c⟩ : ∃d,P.underlying src=some d:=by cases h:P.underlying src with | none=>rw[h]at c;cases c | some d=>exact⟨d,rfl⟩
 have:bD P (Go.convert src dst (.int k' n))=some (.int k (k.wrap n)):=by
  unfold Go.convert;rw[bT,nT c,dX,bT,nT hd,dX];cases d<;>rfl
 simp only[bX,this,dX,iE,scalar,if_true,jI,Option.map_some]
@[simp] theorem aaU{g:cL}{r:Ref}{src dst:TypeId}(c:(P.underlying src).isNone=false)(hd:intKind P dst=some .u32)(x:UInt8) :
 bX P g r src dst (some (a8 x))=some (bO x.toUInt32,[]):=by
 unfold a8 bO;rw[oq P .u32 c hd,EU,SZ]
@[simp] theorem acL{g:cL}{r:Ref}{src dst:TypeId}(c:(P.underlying src).isNone=false)(hd:intKind P dst=some .i64)(x:UInt8) :
 bX P g r src dst (some (a8 x))=some (aI x.toNat,[]):=by
 unfold a8;rw[oq P .i64 c hd,afh]
@[simp] theorem aaV{g:cL}{r:Ref}{src dst:TypeId}(c:(P.underlying src).isNone=false)(hd:intKind P dst=some .i64)(x:UInt32) :
 bX P g r src dst (some (bO x))=some (aI x.toNat,[]):=by
 unfold bO;rw[oq P .i64 c hd,abB]
@[simp] theorem acK{g:cL}{r:Ref}{src dst:TypeId}{k':IntKind}(c:(P.underlying src).isNone=false)(hd:intKind P dst=some .u8)(n:Int) :
 bX P g r src dst (some (.v (.int k' n)))=some (a8 (u8 n),[]):=by
 unfold a8;rw[oq P .u8 c hd,YU]
@[simp] theorem aaT{g:cL}{r:Ref}{src dst:TypeId}{k':IntKind}(c:(P.underlying src).isNone=false)(hd:intKind P dst=some .u32)(n:Int) :
 bX P g r src dst (some (.v (.int k' n)))=some (bO (u32 n),[]):=by
 unfold bO;rw[oq P .u32 c hd,EU]
@[simp] theorem acJ{g:cL}{r:Ref}{src dst:TypeId}{k':IntKind}(c:(P.underlying src).isNone=false)(hd:intKind P dst=some .i64)(n:Int) :
 bX P g r src dst (some (.v (.int k' n)))=some (aI (IntKind.i64.wrap n),[]):=oq P .i64 c hd n
end
def aA(l:List UInt8):List AV:=l.map a8
@[simp] def fW(l:List UInt8):(aA l).length=l.length:=by simp[aA]
@[simp] def ag7:aA []=[]:=id rfl
def T8(P:Program)(d:Bool)(g:cL)(r:Ref)(t:TypeId)(e:List TypeId)(x:AV)(c : ∀r',x ≠ .mp r'):cO P d g r .len ⟨t :: e⟩ [x]=HR P (some t) x:=by
 unfold cO;cases x<;>first | rfl | (rename_i q;exact(c q rfl).elim)
@[simp] def agB(P:Program)(d:Bool)(g:cL)(r:Ref)(t:TypeId)(c:List TypeId)(x:AV)(f:(sT x).isSome=true):cO P d g r .len ⟨t :: c⟩ [x]=HR P (some t) x:=by
 refine T8 P d g r t c x λr' e=>?_;subst e;cases f
@[simp] def ac6:sT aO=some 0:=id rfl
@[simp] def ac7(n:Nat)(es:List AV)(c:Option Nat):sT (.bq n es c)=some es.length:=id rfl
@[simp] def ac5(r:Ref)(o n:Nat)(c:Option Nat):sT (.bA r o n c)=some n:=id rfl
@[simp] def aaP{P:Program}{t:TypeId}(e:mC P t=none)(c:isStr P t=false)(d:(cu P t).isSome=true)(x:AV):HR P (some t) x=(sT x).map λn=>(aI n,[]):=by
 simp only[HR,e,c,d];rfl
def Mh{P:Program}{t:TypeId}{z:Nat}(h:(cu P t).bind (aH P)=some z) : ∃e,cu P t=some e/\aH P e=some z:=by
 simpa [iz] using h
@[simp] def Gz{P:Program}{t:TypeId}{z:Nat}(h:(cu P t).bind (aH P)=some z)(g:cL)(es:List AV)(c:Option Nat)(d:IntKind)(k:Int) :
 bK P g t (some (.bq z es c)) (some (.v (.int d k)))=if 0<=k/\k<es.length then some (.iptr z es k.toNat 0,[]) else none:=by
 obtain⟨e,he,f⟩:=Mh h;simp only[bK,dX,tC,he,f,iQs]
@[simp] def aaO{P:Program}{t:TypeId}(d:(eI P t).isSome=true)(c:(aH P t).isSome=true)(g:cL)(z:Nat)(es:List AV)(i j:Nat) :
 nh P g t (some (.iptr z es i j))=jI (bP es i j ((aH P t).getD 0) ((eI P t).getD false)):=by
 obtain⟨a,d⟩:=ib.1 d;obtain⟨n,c⟩:=ib.1 c;simp only[nh,d,c,cb]
def UI(x:Option aY)(i j n:Nat)(c:Bool):jl:=match x with
 | some b=>jI (bP b.es i j n c)
 | none=>none
@[simp] def abh(b:aY)(i j n:Nat)(c:Bool):UI (some b) i j n c=jI (bP b.es i j n c):=id rfl
@[simp] def acI{P:Program}{t:TypeId}(d:(eI P t).isSome=true)(c:(aH P t).isSome=true)(g:cL)(r:Ref)(i j:Nat) :
 nh P g t (some (.ptr r i j))=UI (g r) i j ((aH P t).getD 0) ((eI P t).getD false):=by
 obtain⟨a,d⟩:=ib.1 d;obtain⟨n,c⟩:=ib.1 c;simp only[nh,d,c,cb];rfl
def BA{es:List AV}{i j n:Nat}{e x:AV}(h:es[i]?=some e)(c:e.cells[j]?=some x):bP es i j n false=some x:=by
 simp only[bP,h,c];rfl
@[simp] def Ss(e:AV)(es:List AV)(j n:Nat):bP (e :: es) 0 j n true=if j+n<=e.cells.length/\0<n then some (.agg ((e.cells.drop j).take n)) else none:=id rfl
@[simp] def Sr(e:AV)(es:List AV)(j n:Nat):bP (e :: es) 0 j n false=e.cells[j]?:=id rfl
@[simp] def aaG(l:List UInt8)(i n:Nat):bP (aA l) i 0 n false=(l[i]?).map a8:=by
 unfold bP aA;rw[kR];cases l[i]?<;>rfl
def Sl(z:Nat)(es:List AV)(x:AV):Prop:=(x=aO/\es=[]) \/∃c,x = .bq z es c/\es.length<=c.getD es.length
def Sl.mk(z:Nat)(es:List AV):Sl z es (.bq z es none) := .inr ⟨none,rfl,bg _⟩
def Sl.len{z:Nat}{es:List AV}{x:AV}(h:Sl z es x):sT x=some es.length:=by
 rcases h with ⟨rfl,rfl⟩ | ⟨c,rfl,_⟩<;>rfl
def Sl.bq{z:Nat}{es:List AV}{x:AV}(h:Sl z es x){i:Nat}(hi:i<es.length) : ∃c,x = .bq z es c/\es.length<=c.getD es.length:=by
 rcases h with ⟨rfl,rfl⟩ | h
 ·simp at hi
 exact h
def Sl.view{z:Nat}{es:List AV}{x:AV}(h:Sl z es x)(g:cL)(n:Nat):view g (n+1) x=some x:=by
 rcases h with ⟨rfl,rfl⟩ | ⟨c,rfl,_⟩<;>rfl
def Sl.refs{z:Nat}{es:List AV}{x:AV}(h:Sl z es x)(g:cL)(n:Nat):af g n x=[]:=by
 rcases h with ⟨rfl,rfl⟩ | ⟨c,rfl,_⟩<;>cases n<;>rfl
def Sl.imp{z:Nat}{es:List AV}{x:AV}(h:Sl z es x)(r:Ref)(n:Nat):aj r n x []=(x,[]):=by
 rcases h with ⟨rfl,rfl⟩ | ⟨c,rfl,_⟩<;>cases n<;>rfl
def Sl.cells{z:Nat}{es:List AV}{x:AV}(h:Sl z es x):x.cells=[x]/\x.one=true:=by
 rcases h with ⟨rfl,_⟩ | ⟨c,rfl,_⟩<;>exact⟨rfl,rfl⟩
@[simp] def ahi(g:cL)(n:Nat)(x:Value):view g (n+1) (.v x)=some (.v x):=id rfl
@[simp] def ahj(g:cL)(n:Nat)(x:UInt8):view g (n+1) (a8 x)=some (a8 x):=id rfl
@[simp] def afU(g:cL)(n:Nat)(x:UInt32):view g (n+1) (bO x)=some (bO x):=id rfl
@[simp] def adD(g:cL)(n z:Nat)(es:List AV)(c:Option Nat):view g (n+1) (.bq z es c)=some (.bq z es c):=id rfl
@[simp] def adE(g:cL)(n:Nat)(cs:List AV):view g (n+1) (.agg cs)=(cs.mapM (view g n)).map .agg:=id rfl
@[simp] def adC(g:cL)(n:Nat)(cs:List AV):view g (n+1) (.tup cs)=(cs.mapM (view g n)).map .tup:=id rfl
@[simp] def acn(g:cL)(n z:Nat)(es:List AV)(i j:Nat):view g (n+1) (.iptr z es i j)=some (.iptr z es i j):=id rfl
def KK{g:cL}{r:Ref}{b:aY}(d:g r=some b)(n o l:Nat)(c:Option Nat):view g (n+1) (.bA r o l c)=if b.arr=true/\o+l<=b.es.length then some (.bq b.esz ((b.es.drop o).take l) c) else none:=by
 simp only[view,d]
def aC:depth=8:=Nat.le_antisymm (bg 8) (bg 8)
end
section
@[simp] def aa.bS(r q:Ref)(b:Option aY)(H:aa):aa.get ((r,b) :: H) q=if r=q then b else aa.get H q:=id rfl
@[simp] def aa.get_nil(q:Ref):aa.get [] q=none:=id rfl
attribute [simp] aa.ab
@[simp] def agC(P:Program)(r:Ref)(e:TypeId)(x:AV)(c:0<(aH P e).getD 0):HU P r e (some x)=if some x.cells.length=aH P e/\x.cells.all AV.one=true then some (.ptr r 0 0,[⟨(aH P e).getD 0,[x],false,false⟩]) else none:=by
 unfold HU;cases h:aH P e with
 | none=>simp
 | some n=>rw[h]at c;simp only[cb]at c;simp[c]
def Fr(H:aa):Prop :=∀d t g k,H.gen d t<=g->H.get ⟨d,t,g,k⟩=none
def Fr.nil:Fr []:=λ_ _ _ _ _=>rfl
def Fr.keyed{H:aa}(h:Fr H)(bs:List aY)(d t:Nat):Fr (Ab.keyed ⟨d,t,H.gen d t,0⟩ 0 bs H):=by
 intro i t' g k c;rw[aa.mj]at c;rw[aa.Aj];by_cases f:bs=[];·subst f;rw[if_neg (by simp)]at c;simp[h _ _ _ _ c]
 by_cases hd:i=d/\t'=t;·obtain⟨rfl,rfl⟩:=hd;rw[if_pos ⟨rfl,rfl,f⟩]at c;dsimp only at c ⊢;rw[if_neg (by intro e;have:=e.2.2.1;omega)];exact h _ _ _ _ (by omega)
 rw[if_neg (by intro e;exact hd ⟨e.1,e.2.1⟩)]at c;dsimp only at c ⊢;rw[if_neg (by intro e;exact hd ⟨e.1,e.2.1⟩)];exact h _ _ _ _ c
def Fr.put{H:aa}(h:Fr H){r:Ref}(b:Option aY)(f:(H.get r).isSome=true):Fr (H.put r b):=by
 intro d t g k c;rw[aa.dK H r b f]at c;rw[aa.ab];split;·rename_i e;subst e;rw[h _ _ _ _ c]at f;cases f
 exact h _ _ _ _ c
def Fr.cons{H:aa}(h:Fr H)(d t:Nat)(b:Option aY):Fr ((⟨d,t,H.gen d t,0⟩,b) :: H):=by
 intro l t' g k c;simp only[aa.gen]at c;rw[aa.bS];split at c;·rename_i e;obtain⟨rfl,rfl⟩:=e;rw[if_neg (by intro e;injection e;omega)];exact h _ _ _ _ (by omega)
 rename_i e;rw[if_neg (by intro f;injection f with j i;exact e ⟨j,i⟩)];exact h _ _ _ _ c
def pq{H:aa}(c:Fr H){q:Ref}(h:(H.get q).isSome=true)(d t k:Nat):(⟨d,t,H.gen d t,k⟩:Ref)≠q:=by
 intro e;subst e;rw[c _ _ _ _ (bg _)]at h;cases h
def RU(P:Program)(t z by':Nat):Bool:=match cu P t with
 | some e=>aH P e == some z&&gX P e == some by'&&(match eP P e with | some zz=>zz.cells.length == z&&zz.cells.all AV.one | none=>false)&&z != 0&&by' != 0
 | none=>false
def EA(P:Program)(t:TypeId):Bool:=(P.underlying t).isSome && !isInt P t
def fB{P:Program}{t z by':Nat}(h:RU P t z by'=true) : ∃e zz,cu P t=some e/\aH P e=some z/\gX P e=some by'/\eP P e=some zz/\zz.cells.length=z/\zz.cells.all AV.one=true/\z≠0/\by'≠0:=by
 unfold RU at h;split at h
 ·rename_i e f;simp only[bt,iQl,bne_iff_ne]at h;obtain⟨⟨⟨⟨j,d⟩,c⟩,i⟩,g⟩:=h;split at c;·rename_i zz l;simp only[bt,iQl]at c;exact⟨e,zz,f,j,d,l,c.1,c.2,i,g⟩
  cases c
 cases h
def Sp(g:cL)(z:Nat)(new:List AV)(x:AV):Prop:=(x=aO/\new=[])\/(isNum x=false/\x≠aO/\cy g x=some (z,new))
def Sp.md{P:Program}{t z by':Nat}(h:RU P t z by'=true){e:TypeId}(j:cu P t=some e){g:cL}{new:List AV}{x:AV}(c:Sp g z new x):md P g e x=some (z,new):=by
 obtain⟨n,zz,f,i,m,w,p,A,v,q⟩:=fB h;rw[j]at f;cases f;rcases c with ⟨rfl,rfl⟩ | ⟨l,d,c⟩
 ·simp only[Ab.md,i,Option.map_some]
 unfold Ab.md;split;·exact(d rfl).elim
 ·simp[isNum]at l
 exact c
def Sp.num{g:cL}{z:Nat}{new:List AV}{x:AV}(c:Sp g z new x):isNum x=false:=by
 rcases c with ⟨rfl,_⟩ | ⟨d,_⟩
 ·rfl
 exact d
def Sl.Hz{z:Nat}{es:List AV}{x:AV}(h:Sl z es x)(g:cL):Sp g z es x:=by
 rcases h with ⟨rfl,rfl⟩ | ⟨c,rfl,_⟩
 ·exact .inl ⟨rfl,rfl⟩
 exact .inr ⟨rfl,(by intro e;cases e),rfl⟩
def DW(z:Nat)(es:List AV)(H:aa)(x:AV):Prop:=(x=aO/\es=[]) \/∃r,x = .bA r 0 es.length none/\H.get r=some ⟨z,es,true,false⟩
def E1(z:Nat)(H:aa):DW z [] H aO := .inl ⟨rfl,rfl⟩
def DW.len{z:Nat}{es:List AV}{H:aa}{x:AV}(h:DW z es H x):sT x=some es.length:=by
 rcases h with ⟨rfl,rfl⟩ | ⟨r,rfl,_⟩<;>rfl
def DW.view{z:Nat}{es:List AV}{H:aa}{x:AV}(h:DW z es H x)(n:Nat) : ∃y,view H.get (n+1) x=some y/\Sl z es y:=by
 rcases h with ⟨rfl,rfl⟩ | ⟨r,rfl,c⟩
 ·exact⟨aO,rfl,.inl ⟨rfl,rfl⟩⟩
 refine⟨.bq z es none,?_,Sl.mk z es⟩;rw[KK c];simp
def DW.Hz{z:Nat}{es:List AV}{H:aa}{x:AV}(h:DW z es H x):Sp H.get z es x:=by
 rcases h with ⟨rfl,rfl⟩ | ⟨r,rfl,c⟩
 ·exact .inl ⟨rfl,rfl⟩
 refine .inr ⟨rfl,(by intro e;cases e),?_⟩;simp[cy,c]
def AV.at?:AV->Option Ref
 | .bA r _ _ _=>some r
 | .ptr r _ _=>some r
 | _=>none
def Yu{P:Program}{t t' z by':Nat}(U:RU P t z by'=true)(w:EA P t'=true){H:aa}{r:Ref}{es new:List AV}{s x:AV}(V:DW z es H s)(J:Sp H.get z new x)
 (K:(es.length+new.length) * by'<=aG) (l:Fr H) (W : ∃d t,r=⟨d,t,H.gen d t,0⟩) :
 ∃N H',dm P true H r (some t) (some t') s x=some (N,H')/\DW z (es++new) H' N/\Fr H' /\∀q b,H.get q=some b->s.at?≠some q->H'.get q=some b/\N.at?≠some q:=by
 obtain⟨e,zz,m,F,p,B,Q,X,S,R⟩:=fB U;have c:=J.md U m;unfold EA at w;simp only[bt,gz]at w;have M:(P.underlying t').isNone=false:=by cases h:P.underlying t' with | none=>rw[h]at w;simp at w | some d=>rfl
 have I : ¬((P.underlying t').isNone=true\/isInt P t'≠isNum x):=by
  rw[M,w.2,J.num];simp
 have hd : ¬(z≠z\/z=0\/by'=0\/zz.cells.length≠z):=by simp[Q,S,R]
 obtain⟨dd,j,rfl⟩:=W;rcases V with ⟨rfl,rfl⟩ | ⟨q,rfl,g⟩
 ·by_cases n:new=[];·subst n;refine⟨aO,H,?_,E1 z H,l,λq b g _=>⟨g,by simp[AV.at?]⟩⟩;simp only[dm,ei,dX,m,Option.map_some,cb,if_neg I,F,p,B,c,if_neg hd,if_true];rfl
  refine⟨.bA ⟨dd,j,H.gen dd j,0⟩ 0 new.length none,(⟨dd,j,H.gen dd j,0⟩,some ⟨z,new,true,false⟩) :: H,?_,.inr ⟨⟨dd,j,H.gen dd j,0⟩,by simp,by simp⟩,l.cons dd j _,λq b g _=>?_⟩;·simp only[k8,ue]at K;simp only[dm,ei,dX,m,Option.map_some,cb,if_neg I,F,p,B,c,if_neg hd,if_neg n,if_pos K];rfl
  have f:=pq l (q:=q) (by rw[g];rfl) dd j 0;rw[aa.bS,if_neg f];exact⟨g,by intro e;simp only[AV.at?,dV]at e;exact f e⟩
 by_cases n:new=[];·subst n;refine⟨.bA q 0 es.length none,H,?_,.inr ⟨q,by simp,by simpa using g⟩,l,λq b g f=>⟨g,f⟩⟩;simp only[dm,ei,dX,m,Option.map_some,cb,if_neg I,F,p,B,c,if_neg hd,g,if_true];simp
 have L : ¬(z≠z\/z=0\/by'=0\/new=[]\/zz.cells.length≠z):=(by simp[Q,S,R,n]);have A:(H.get q).isSome=true:=by rw[g];rfl
 have G:H.gen q.d q.t=(H.put q none).gen q.d q.t:=(aa.dK H q none A _ _).symm;refine⟨.bA ⟨q.d,q.t,H.gen q.d q.t,0⟩ 0 (es.length+new.length) none,(⟨q.d,q.t,H.gen q.d q.t,0⟩,some ⟨z,es++new,true,false⟩) :: H.put q none,?_,.inr ⟨⟨q.d,q.t,H.gen q.d q.t,0⟩,by simp,by simp⟩,?_,λT b v f=>?_⟩;·have O:ei P H.get ⟨dd,j,H.gen dd j,0⟩ (some t) (some t') (.bA q 0 es.length none) x=none:=(by simp only[ei,dX,m,Option.map_some,cb,if_neg I,F,p,B,c,if_neg hd,g,if_neg n];simp);simp only[dm,O,DH,GH];simp only[jU,dX,m,Option.map_some,cb,if_neg I,F,p,B,c,if_neg L,g,K,and_self,if_true,iQt]
 ·rw[G];exact(l.put none A).cons _ _ _
 have J:T≠q:=by intro e;subst e;exact f rfl
 have i:=pq l (q:=T) (by rw[v];rfl) q.d q.t 0;rw[aa.bS,if_neg i,aa.ab,if_neg J];exact⟨v,by intro e;simp only[AV.at?,dV]at e;exact i e⟩
def KA{m:List UInt8}{i:Nat}(h:i<m.length)(v:UInt8):gr (aA m) i 0 (a8 v).cells=some (aA (m.set i v)):=by
 unfold gr aA;rw[kR,de h];show(nn (a8 m[i]) 0 [a8 v]).map _=_;show some ((m.map a8).set i (a8 v))=_;rw[Fo]
def DW.bA{z:Nat}{es:List AV}{H:aa}{x:AV}(h:DW z es H x)(c:es≠[]) : ∃r,x = .bA r 0 es.length none/\H.get r=some ⟨z,es,true,false⟩:=by
 rcases h with ⟨_,rfl⟩ | h
 ·exact(c rfl).elim
 exact h
end
end Go.Ab
