/-
  What is to be shown for a run of the abstract machine, as one proposition that is computed from the code. No statement of a seat is proved here.
-/
import Derived.IntWalk
import Derived.Test.YtmkmimgokagimaaGreatAbsEnv
set_option linter.unusedVariables false
set_option linter.unusedSimpArgs false
set_option linter.unusedSectionVars false
set_option linter.unnecessarySimpa false
set_option linter.defProp false
namespace Go.Ab
section
abbrev dF:=Nat->AV
def cG(s:dF):Operand->Option AV
 | .tmp t=>some (s t)
 | .const v=>ofValue v
 | .func f=>some (.fn (.func f) [] [])
 | .global _=>none
def Ck(c:Operand->Option AV):List Operand->Option (List AV)
 | []=>some []
 | o :: os=>match c o,Ck c os with
  | some x,some xs=>some (x :: xs)
  | _,_=>none
def CF(c:Operand->Option AV):List (Nat × Operand)->Option (List (Nat × AV))
 | []=>some []
 | (i,o) :: os=>match c o,CF c os with
  | some x,some xs=>some ((i,x) :: xs)
  | _,_=>none
def Nh(c:Operand->Option AV):Option Operand->Option (Option Int)
 | none=>some none
 | some o=>match (c o).bind intOf with
  | some n=>some (some n)
  | none=>none
def acn(s:dF)(d:Nat)(v:AV):dF:=λi=>cond (Nat.beq i d) v (s i)
def dW(tm:List AV)(s:dF):Prop :=∀i,dA tm i=s i
def vV{tm:List AV}{s:dF}(h:dW tm s):aC tm=cG s:=by
 funext o;cases o<;>simp[aC,cG,h _]
def DQ(c:Operand->Option AV)(l:List Operand):l.mapM c=Ck c l:=by
 induction l with| nil=>rfl| cons o l d=>simp only[mH,d,Ck,rR,s7];cases c o<;>cases Ck c l<;>rfl
def ER{tm:List AV}{s:dF}(h:dW tm s)(l:List (Nat × Operand)):gK tm l=CF (cG s) l:=by
 induction l with| nil=>rfl| cons o l c=>obtain⟨i,o⟩:=o;unfold gK at c ⊢;rw[mH,c];simp only[CF,rR,s7,vV h];cases cG s o<;>cases CF (cG s) l<;>rfl
def Li{tm:List AV}{s:dF}(h:dW tm s)(o:Option Operand):mP tm o=Nh (cG s) o:=by
 cases o with| none=>rfl| some o=>simp only[mP,Nh,vV h];rfl
def dW.set{tm:List AV}{s:dF}(h:dW tm s)(d:Nat)(v:AV):dW (Dj tm d v) (acn s d v):=by
 intro i;rw[vg];unfold acn;split;·rename_i e;subst e;simp
 rename_i e;rw[show Nat.beq i d=false from by cases c:Nat.beq i d with | false=>rfl | true=>exact(e (mK c)).elim];exact h i
def Ba(c a b:Option AV):jk:=
 match c.bind Fc with
 | some true=>kC a
 | some false=>kC b
 | none=>none
def mE(H:aa)(r:Ref)(q:jk):cp:=
 match q with
 | some (v,c)=>some (v,keyed r 0 c H)
 | none=>none
def Gb(c:Bool)(a b:cp):cp:=
 match a with
 | some x=>some x
 | none=>cond c b none
def bB(E:Env)(c:Bool)(pc:FuncId->List AV->Option AV)(tc:uE->List AV->aa->cp)(H:aa)(r:Ref)(f:Option AV)(args:List AV):cp:=
 Gb c (mE H r (kW E pc H.get r f args)) (nH E pc tc H r f args)
def nO(E:Env)(c:Bool)(pc:FuncId->List AV->Option AV)(tc:uE->List AV->aa->cp)(H:aa)(r:Ref)(f:Option AV)(args:List AV):cp:=
 Gb c (mE H r ((kW E pc H.get r f args).map λp=>(p.1,Bn true p.2))) (qQ true E.sm H (nH E pc tc H r f args))
def ga(P:Program)(c:Bool)(H:aa)(r:Ref)(t t':Option TypeId)(s x:AV):cp:=
 Gb c (mE H r (fu P H.get r t t' s x)) (lx P H t t' s x)
def qb(P:Program)(u d:Bool)(H:aa)(r:Ref)(t:TypeId)(n:Nat)(c:Option (List (Nat × AV))):cp:=
 Gb d (mE H r (iQ P u H.get r t n c)) (kU P H r t n c)
def tH(E:Env)(pc:FuncId->List AV->Option AV)(tc:uE->List AV->aa->cp)(dep:Nat)(u d:Bool)(s:dF)(H:aa)(r:Ref)(o:Oper):jk ⊕ cp:=
 match o.op with
 | .move x | .assign x => .inl (kC (cG s x))
 | .pick c a b => .inl (Ba (cG s c) (cG s a) (cG s b))
 | .alloc e => .inr (mE H r (xJ E.P r e))
 | .box e x => .inr (mE H r (F9 E.P r e (cG s x)))
 | .build t ps => .inl (nz E.P t (CF (cG s) ps.toList))
 | .buildSlice t n ps => .inr (qb E.P (u && !E.strict o) d H r t n (CF (cG s) ps.toList))
 | .load t a => .inl (uh E.P H.get t (cG s a))
 | .store t a x => .inr (cond d (nx E.P H t (cG s a) (cG s x)) none)
 | .nilCheck x => .inl (MX (cG s x))
 | .binOp op t D C _ => .inl (bP E.P op t D C (cG s D) (cG s C))
 | .unOp op _ x => .inl (Z9 E.P op (cG s x))
 | .convert src dst x=>match ei E.P dst with
  | true => .inr (mE H r (eE E.P H.get r src dst (cG s x)))
  | false => .inl (eE E.P H.get r src dst (cG s x))
 | .makeInterface t x => .inl (tG E.P t (cG s x))
 | .makeFunc f first captured => .inl (wU f (Ck (cG s) first.toList) (Ck (cG s) captured.toList))
 | .makeSlice t l c => .inr (mE H r (FE E.P r t (cG s l) (cG s c)))
 | .slice t x h p j=>match E.wide o && !u with
  | true => .inl (wS E.P H.get t (cG s x) (Nh (cG s) h) (Nh (cG s) p) (Nh (cG s) j))
  | false => .inl (iT E.P H.get t (cG s x) (Nh (cG s) h) (Nh (cG s) p) (Nh (cG s) j))
 | .fieldAddr t x f => .inl (kr E.P t (cG s x) f)
 | .field t x f => .inl (vL E.P t (cG s x) f)
 | .indexAddr t x g => .inl (da E.P H.get t (cG s x) (cG s g))
 | .index t x g => .inl (r8 E.P t (cG s x) (cG s g))
 | .typeAssert x _ want ok => .inl (tV E.P (cG s x) want ok)
 | .extract x i => .inl (ui (cG s x) i)
 | .call c=>
  match Ck (cG s) c.args.toList with
  | none => .inl none
  | some args=>
   match c.callee with
   | .value f=>(match FG E.uI u f with
    | some t => .inl (MW E.P H.get t args)
    | none=>(match E.gJ o with
     | true => .inr (nO E d pc tc H r (cG s f) args)
     | false => .inr (bB E d pc tc H r (cG s f) args)))
   | .invoke _ _ => .inl none
   | .builtin b=>match b,args with
    | .append,[a,x] => .inr (ga E.P d H r c.argTypes[0]? c.argTypes[1]? a x)
    | .copy,[dst,x]=>(match E.wide o with
     | true => .inr (cond d (G6 E.P H c.argTypes[0]? dst x) none)
     | false => .inr (cond d (L4 E.P H c.argTypes[0]? dst x) none))
    | b,args => .inl (cP E.P (u&&(E.strict o || !(match c.args.toList with | [.tmp _]=>true | _=>false))) H.get r b c.argTypes args)
 | .makeMap _ none => .inr (mE H r (some (.mp r,[ba []])))
 | .lookup t x k ok => .inl (fe E.P H.get t (cG s x) (cG s k) ok)
 | .mapUpdate t m k x => .inr (cond d (dQ E.P H t (cG s m) (cG s k) (cG s x)) none)
 | .insert t m k x => .inr (cond d (dQ E.P H t (cG s m) (cG s k) (cG s x)) none)
 | .mapEntry t m k => .inr (cond d (jl E.P H t (cG s m) (cG s k)) none)
 | .entryStore _ m n x => .inr (cond d (fQ H (cG s m) (cG s n) (cG s x)) none)
 | .makeChan t n => .inr (cond d (Bz E.P H r t (cG s n)) none)
 | .send c x => .inr (cond d (G3 H (cG s c) (cG s x)) none)
 | .recv t c ok => .inr (cond d (JM E.P H t (cG s c) ok) none)
 | _ => .inl none
def o4(E:Env)(pc:FuncId->List AV->Option AV)(tc:uE->List AV->aa->cp)(dep:Nat)(u:Bool)(tm:List AV)(H:aa)(o:Oper):cp:=
 match cr E pc u H.get tm ⟨dep,o.dst.getD 0,H.gen dep (o.dst.getD 0),0⟩ o with
 | some (x,c)=>some (x,keyed ⟨dep,o.dst.getD 0,H.gen dep (o.dst.getD 0),0⟩ 0 c H)
 | none=>if u && !il E o then none else evalW E pc tc H tm ⟨dep,o.dst.getD 0,H.gen dep (o.dst.getD 0),0⟩ o
def WQ(E:Env)(pc:FuncId->List AV->Option AV)(tc:uE->List AV->aa->cp)(nt dep:Nat)(u:Bool)(ops:Array Oper)(o:Oper)(st:St)(c:(u&&DZ E o)=false) :
 evalOp E pc tc nt dep u ops o st=(match wanted ops st.tm o with
  | none=>none
  | some false=>(cQ nt st.tm o.dst AV.undef).map λtm => { st with tm}
  | some true=>match o4 E pc tc dep u st.tm st.hp o with
   | some (x,H)=>(cQ nt st.tm o.dst x).map λtm=>⟨tm,H⟩
   | none=>none):=by
 unfold evalOp o4 uL tK;rw[c];simp only[iQs];cases hw:wanted ops st.tm o with
 | none=>rfl
 | some b=>
 cases b with| false=>rfl| true=>
  cases cr E pc u st.hp.get st.tm ⟨dep,o.dst.getD 0,st.hp.gen dep (o.dst.getD 0),0⟩ o with
  | some p=>rfl
  | none=>
   dsimp only;split;·rfl
   rfl
def WR{E:Env}{pc:FuncId->List AV->Option AV}{tc:uE->List AV->aa->cp}{dep:Nat}{u:Bool}{tm:List AV}{H:aa}{o:Oper}{v:AV}
 (h:cr E pc u H.get tm ⟨dep,o.dst.getD 0,H.gen dep (o.dst.getD 0),0⟩ o=some (v,[])):o4 E pc tc dep u tm H o=some (v,H):=by
 unfold o4;rw[h];rfl
def N6{E:Env}{pc:FuncId->List AV->Option AV}{tc:uE->List AV->aa->cp}{dep:Nat}{u:Bool}{tm:List AV}{H H':aa}{o:Oper}{v:AV}{q:jk}
 (h:cr E pc u H.get tm ⟨dep,o.dst.getD 0,H.gen dep (o.dst.getD 0),0⟩ o=q) (c:mE H ⟨dep,o.dst.getD 0,H.gen dep (o.dst.getD 0),0⟩ q=some (v,H')):o4 E pc tc dep u tm H o=some (v,H'):=by
 unfold o4;rw[h];unfold mE at c;split at c;·exact c
 cases c
def lW{E:Env}{pc:FuncId->List AV->Option AV}{tc:uE->List AV->aa->cp}{dep:Nat}{u:Bool}{tm:List AV}{H H':aa}{o:Oper}{v:AV}{q:jk}{w:cp}
 (h:cr E pc u H.get tm ⟨dep,o.dst.getD 0,H.gen dep (o.dst.getD 0),0⟩ o=q) (e:evalW E pc tc H tm ⟨dep,o.dst.getD 0,H.gen dep (o.dst.getD 0),0⟩ o=w)
 (c:Gb (!(u && !il E o)) (mE H ⟨dep,o.dst.getD 0,H.gen dep (o.dst.getD 0),0⟩ q) w=some (v,H')):o4 E pc tc dep u tm H o=some (v,H'):=by
 unfold o4;rw[h];cases q with
 | some p=>simpa [Gb,mE] using c
 | none=>
  rw[e];cases d:(u && !il E o) with
  | true=>rw[d]at c;simp[Gb,mE]at c
  | false=>rw[d]at c;simpa [Gb,mE] using c
section
variable{E:Env}{pc:FuncId->List AV->Option AV}{tc:uE->List AV->aa->cp}{dep:Nat}{u:Bool}{tm:List AV}{s:dF}{H:aa}{o:Oper}
def VS(d:dW tm s){q:jk}{v:AV}
 (h:tH E pc tc dep u (!(u && !il E o)) s H ⟨dep,o.dst.getD 0,H.gen dep (o.dst.getD 0),0⟩ o = .inl q) (n:q=some (v,[])):o4 E pc tc dep u tm H o=some (v,H):=by
 subst n;refine WR ?_;have e:=vV d;unfold tH at h;unfold cr;split at h<;>rename_i j<;>simp only[j];all_goals try (simp only[AQ,reduceCtorEq]at h)
 all_goals try (rw[<-h];simp only[e,Ba,HU,ER d,Li d,DQ];done)
 ·rw[<-h];unfold HU Ba;rw[e];rfl
 ·split at h;·cases h
  simp only[AQ]at h;rw[<-h,e]
 ·cases g:(E.wide o && !u) with| true=>rw[g]at h;simp only[AQ]at h;rw[<-h];simp only[iQq,e,Li d]| false=>rw[g]at h;simp only[AQ]at h;rw[<-h];simp only[iQs,e,Li d]
 rw[DQ,e];split at h;·cases h
 rename_i args c;rw[c];dsimp only;split at h
 ·rename_i f i;rw[i];dsimp only;split at h;·rename_i t m;simp only[AQ]at h;simp only[m];exact h
  split at h<;>cases h
 ·cases h
 rename_i b l;rw[l];dsimp only;split at h;·cases h
 ·split at h<;>cases h
 simp only[AQ]at h;exact h
def VQ(p:dW tm s){w:cp}{v:AV}{H':aa}
 (h:tH E pc tc dep u (!(u && !il E o)) s H ⟨dep,o.dst.getD 0,H.gen dep (o.dst.getD 0),0⟩ o = .inr w) (z:w=some (v,H')):o4 E pc tc dep u tm H o=some (v,H'):=by
 subst z;have e:=vV p;unfold tH at h;split at h<;>rename_i c;all_goals try (simp only[reduceCtorEq]at h;done)
 all_goals try (simp only[ze]at h)
 all_goals try (refine N6 (by unfold cr;simp only[c,e]) h;done)
 ·rw[<-ER p]at h;exact lW (q:=iQ _ _ _ _ _ _ _) (w:=kU _ _ _ _ _ _) (by unfold cr;simp only[c]) (by unfold evalW;simp only[c]) h
 ·rw[<-e]at h;exact lW (q:=none) (w:=nx _ _ _ _ _) (by unfold cr;simp only[c]) (by unfold evalW;simp only[c]) h
 ·split at h;·simp only[ze]at h;refine N6 (by unfold cr;simp only[c,e]) h
  cases h
 ·split at h<;>cases h
 ·split at h;·cases h
  rename_i args j;have g:=j;rw[<-DQ,<-e]at g;split at h
  ·rename_i f n;split at h;·cases h
   rename_i m;split at h;·rename_i d;simp only[ze]at h;rw[<-e]at h;exact lW (q:=(kW _ _ _ _ _ _).map _) (w:=qQ true _ _ (nH _ _ _ _ _ _ _)) (by unfold cr;simp only[c,g,n,m,d]) (by unfold evalW;simp only[c,g,n,d]) h
   rename_i d;simp only[ze]at h;rw[<-e]at h;exact lW (q:=kW _ _ _ _ _ _) (w:=nH _ _ _ _ _ _ _) (by unfold cr;simp only[c,g,n,m,d,Bn];cases kW E pc H.get _ (aC tm f) args<;>rfl) (by unfold evalW;simp only[c,g,n,d];rfl) h
  ·cases h
  rename_i b l;split at h;·simp only[ze]at h;exact lW (q:=fu _ _ _ _ _ _ _) (w:=lx _ _ _ _ _ _) (by unfold cr;simp only[c,g,l];rfl) (by unfold evalW;simp only[c,g,l]) h
  ·split at h;·rename_i i;simp only[ze]at h;exact lW (q:=none) (w:=G6 _ _ _ _ _) (by unfold cr;simp only[c,g,l];rfl) (by unfold evalW;simp only[c,g,l,i,iQq]) h
   rename_i i;simp only[ze]at h;exact lW (q:=none) (w:=L4 _ _ _ _ _) (by unfold cr;simp only[c,g,l];rfl) (by unfold evalW;simp only[c,g,l,i,iQs]) h
  cases h
 ·rw[<-e]at h;exact lW (q:=none) (w:=dQ _ _ _ _ _ _) (by unfold cr;simp only[c]) (by unfold evalW;simp only[c]) h
 ·rw[<-e]at h;exact lW (q:=none) (w:=dQ _ _ _ _ _ _) (by unfold cr;simp only[c]) (by unfold evalW;simp only[c]) h
 ·rw[<-e]at h;exact lW (q:=none) (w:=jl _ _ _ _ _) (by unfold cr;simp only[c]) (by unfold evalW;simp only[c]) h
 ·rw[<-e]at h;exact lW (q:=none) (w:=fQ _ _ _ _) (by unfold cr;simp only[c]) (by unfold evalW;simp only[c]) h
 ·rw[<-e]at h;exact lW (q:=none) (w:=Bz _ _ _ _ _) (by unfold cr;simp only[c]) (by unfold evalW;simp only[c]) h
 ·rw[<-e]at h;exact lW (q:=none) (w:=G3 _ _ _) (by unfold cr;simp only[c]) (by unfold evalW;simp only[c]) h
 rw[<-e]at h;exact lW (q:=none) (w:=JM _ _ _ _ _) (by unfold cr;simp only[c]) (by unfold evalW;simp only[c]) h
end
def Qp(E:Env)(s:dF)(H:aa)(r:Ref)(o:Oper):cp:=
 match o.op with
 | .buildSlice t n ps=>qu E.P H r t n (CF (cG s) ps.toList)
 | .call c=>(match Ck (cG s) c.args.toList with
  | some [a,x]=>yf E.P H r c.argTypes[0]? c.argTypes[1]? a x
  | _=>none)
 | _=>none
def D5(E:Env)(u:Bool)(s:dF)(H:aa)(r:Ref)(o:Oper):Option cp:=if !DZ E o then none else some (if u && !il E o then none else Qp E s H r o)
def Oe(E:Env)(u:Bool)(H:aa)(tm:List AV)(r:Ref)(o:Oper):Option cp:=if !DZ E o then none else some (if u && !il E o then none else yV E H tm r o)
def TA{E:Env}{tm:List AV}{s:dF}{H:aa}{r:Ref}{o:Oper}(d:dW tm s):yV E H tm r o=Qp E s H r o:=by
 unfold yV Qp;generalize o.op=op;cases op;case buildSlice t n ps=>dsimp only;rw[ER d]
 case call c=>
  dsimp only;rw[<-vV d,<-DQ];generalize c.args.toList.mapM (aC tm)=l;match l with
  | none=>rfl
  | some []=>rfl
  | some [_]=>rfl
  | some [_,_]=>rfl
  | some (_ :: _ :: _ :: _)=>rfl
 all_goals rfl
def Od{E:Env}{u:Bool}{tm:List AV}{s:dF}{H:aa}{r:Ref}{o:Oper}(c:dW tm s):Oe E u H tm r o=D5 E u s H r o:=by
 unfold Oe D5;rw[TA c]
def yK(E:Env)(pc:FuncId->List AV->Option AV)(tc:uE->List AV->aa->cp)(dep:Nat)(u c:Bool)(s:dF)(H:aa)(r:Ref)(o:Oper):jk ⊕ cp:=
 match D5 E u s H r o with
 | some w => .inr w
 | none=>tH E pc tc dep u c s H r o
def yP(E:Env)(pc:FuncId->List AV->Option AV)(tc:uE->List AV->aa->cp)(dep:Nat)(u:Bool)(tm:List AV)(H:aa)(o:Oper):cp:=
 match Oe E u H tm ⟨dep,o.dst.getD 0,H.gen dep (o.dst.getD 0),0⟩ o with
 | some w=>w
 | none=>o4 E pc tc dep u tm H o
def LC(E:Env)(pc:FuncId->List AV->Option AV)(tc:uE->List AV->aa->cp)(nt dep:Nat)(u:Bool)(ops:Array Oper)(o:Oper)(st:St) :
 Ar E pc tc nt dep u ops o st=(match wanted ops st.tm o with
  | none=>none
  | some false=>(cQ nt st.tm o.dst AV.undef).map λtm => { st with tm}
  | some true=>match yP E pc tc dep u st.tm st.hp o with
   | some (x,H)=>(cQ nt st.tm o.dst x).map λtm=>⟨tm,H⟩
   | none=>none):=by
 unfold Ar yP RC Oe;cases c:DZ E o with
 | false=>simp only[B3,Kv,if_true];exact WQ E pc tc nt dep u ops o st (by rw[c,AK])
 | true=>
  cases u with| false=>rfl| true=>
   simp only[iQY,if_true,zd,mJ,iQf,m9];unfold evalOp uL tK;rw[c];simp only[AI,iQq,m9];cases wanted ops st.tm o with
   | none=>rfl
   | some b=>
    cases b with
    | false=>rfl
    | true=>
     dsimp only;split;·rfl
     rfl
section
variable{E:Env}{pc:FuncId->List AV->Option AV}{tc:uE->List AV->aa->cp}{dep:Nat}{u:Bool}{tm:List AV}{s:dF}{H:aa}{o:Oper}
def YJ(c:dW tm s){q:jk}{v:AV}
 (h:yK E pc tc dep u (!(u && !il E o)) s H ⟨dep,o.dst.getD 0,H.gen dep (o.dst.getD 0),0⟩ o = .inl q) (e:q=some (v,[])):yP E pc tc dep u tm H o=some (v,H):=by
 unfold yK at h;unfold yP;rw[Od c];cases d:D5 E u s H ⟨dep,o.dst.getD 0,H.gen dep (o.dst.getD 0),0⟩ o with
 | some w=>rw[d]at h;cases h
 | none=>rw[d]at h;exact VS c h e
def YI(c:dW tm s){w:cp}{v:AV}{H':aa}
 (h:yK E pc tc dep u (!(u && !il E o)) s H ⟨dep,o.dst.getD 0,H.gen dep (o.dst.getD 0),0⟩ o = .inr w) (e:w=some (v,H')):yP E pc tc dep u tm H o=some (v,H'):=by
 unfold yK at h;unfold yP;rw[Od c];cases d:D5 E u s H ⟨dep,o.dst.getD 0,H.gen dep (o.dst.getD 0),0⟩ o with
 | some w'=>rw[d]at h;cases h;exact e
 | none=>rw[d]at h;exact VQ c h e
end
open Classical in
noncomputable def ax(E:Env)(f:FuncId)(args:List AV):Option AV:=
 if h : ∃y n,∀m,n<=m->cV E (bZ E m) f args=some y then some h.choose else none
def BO{E:Env}{f:FuncId}{args:List AV}{y:AV}:ax E f args=some y ↔ ∃n,∀m,n<=m->cV E (bZ E m) f args=some y:=by
 unfold ax;constructor
 ·intro h;split at h;·rename_i c;simp only[dG]at h;rw[<-h];exact c.choose_spec
  cases h
 intro h;rw[dif_pos ⟨y,h⟩];obtain⟨n,e⟩:=h;have c : ∃y n,∀m,n<=m->cV E (bZ E m) f args=some y:=⟨y,n,e⟩;obtain⟨g,d⟩:=c.choose_spec;have i:=e (max n g) (Nat.le_max_left ..);have j:=d (max n g) (Nat.le_max_right ..);exact j.symm.trans i
open Classical in
noncomputable def cb(E:Env)(dep:Nat)(f:uE)(args:List AV)(H:aa):cp:=
 if h : ∃y n,∀m,n<=m->eM E (bZ E m) dep f args H=some y then some h.choose else none
def zN{E:Env}{dep:Nat}{f:uE}{args:List AV}{H:aa}{y:AV × aa}:cb E dep f args H=some y ↔ ∃n,∀m,n<=m->eM E (bZ E m) dep f args H=some y:=by
 unfold cb;constructor
 ·intro h;split at h;·rename_i c;simp only[dG]at h;rw[<-h];exact c.choose_spec
  cases h
 intro h;rw[dif_pos ⟨y,h⟩];obtain⟨n,e⟩:=h;have c : ∃y n,∀m,n<=m->eM E (bZ E m) dep f args H=some y:=⟨y,n,e⟩;obtain⟨g,d⟩:=c.choose_spec;have i:=e (max n g) (Nat.le_max_left ..);have j:=d (max n g) (Nat.le_max_right ..);exact j.symm.trans i
def Ol{E:Env}{e:Bool}{dep:Nat}{H H':aa}{r:Ref}{f:Option AV}{args:List AV}{v:AV}(h:bB E e (ax E) (cb E dep) H r f args=some (v,H')) :
 ∃n,∀m,n<=m->bB E e (cV E (bZ E m)) (eM E (bZ E m) dep) H r f args=some (v,H'):=by
 unfold bB at h ⊢;by_cases i : ∃fi first captured,f=some (.fn (.func fi) first captured)
 ·obtain⟨fi,first,captured,rfl⟩:=i;by_cases g:E.mode fi=2
  ·simp only[kW,nH,if_pos g,mE,Gb]at h ⊢;cases e with
   | true=>simp only[iQq]at h ⊢;obtain⟨n,d⟩:=zN.1 h;exact⟨n,d⟩
   | false=>simp at h
  simp only[kW,nH,if_neg g]at h ⊢;cases p:(first++args++captured).mapM (view H.get depth) with
  | none=>rw[p]at h;simp[mE,Gb]at h
  | some xs=>
   rw[p]at h;dsimp only at h ⊢;cases c:ax E fi xs with
   | none=>rw[c]at h;simp[mE,Gb]at h
   | some y=>rw[c]at h;obtain⟨n,d⟩:=BO.1 c;refine⟨n,λm j=>?_⟩;rw[d m j];exact h
 have l : ∀pc,kW E pc H.get r f args=none:=by
  intro pc;unfold kW;split;·exact(i ⟨_,_,_,rfl⟩).elim
  rfl
 by_cases c : ∃q,f=some (.yld q)
 ·obtain⟨q,rfl⟩:=c;rw[l]at h;cases e with
  | false=>simp[mE,Gb]at h
  | true=>have w:cb E dep (.yld q) args H=some (v,H'):=h;obtain⟨n,d⟩:=zN.1 w;refine⟨n,λm j=>?_⟩;rw[l];exact d m j
 have g : ∀pc tc,nH E pc tc H r f args=none:=by
  intro pc tc;unfold nH;split;·exact(i ⟨_,_,_,rfl⟩).elim
  ·exact(c ⟨_,rfl⟩).elim
  rfl
 rw[l,g]at h;cases e<;>simp[mE,Gb]at h
def G4{sm:OB}{H H':aa}{x:cp}{v:AV}(h:qQ true sm H x=some (v,H')) : ∃c,x=some (v,c)/\H'=H/\flat depth v=true/\(Ix H c||sm.f H c)=true:=by
 cases x with| none=>simp[qQ]at h| some p=>
  obtain⟨y,c⟩:=p;unfold qQ at h;simp only at h;split at h;·rename_i d;cases h;rw[aT]at d;exact⟨c,rfl,rfl,d.1,d.2⟩
  cases h
def LH{E:Env}{g:Bool}{dep:Nat}{H H':aa}{r:Ref}{f:Option AV}{args:List AV}{v:AV}(h:nO E g (ax E) (cb E dep) H r f args=some (v,H')) :
 ∃n,∀m,n<=m->nO E g (cV E (bZ E m)) (eM E (bZ E m) dep) H r f args=some (v,H'):=by
 unfold nO at h ⊢;by_cases l : ∃fi first captured,f=some (.fn (.func fi) first captured)
 ·obtain⟨fi,first,captured,rfl⟩:=l;by_cases j:E.mode fi=2
  ·simp only[kW,nH,if_pos j,mE,Gb,AS]at h ⊢;cases g with
   | true=>simp only[iQq]at h ⊢;obtain⟨H1,i,B,F,A⟩:=G4 h;obtain⟨n,d⟩:=zN.1 i;refine⟨n,λm e=>?_⟩;rw[d m e];rw[i]at h;exact h
   | false=>simp at h
  simp only[kW,nH,if_neg j]at h ⊢;cases z:(first++args++captured).mapM (view H.get depth) with
  | none=>rw[z]at h;simp[mE,Gb,qQ]at h
  | some xs=>
   rw[z]at h;dsimp only at h ⊢;cases c:ax E fi xs with
   | none=>rw[c]at h;simp[mE,Gb,qQ]at h
   | some y=>rw[c]at h;obtain⟨n,d⟩:=BO.1 c;refine⟨n,λm e=>?_⟩;rw[d m e];exact h
 have p : ∀pc,kW E pc H.get r f args=none:=by
  intro pc;unfold kW;split;·exact(l ⟨_,_,_,rfl⟩).elim
  rfl
 by_cases c : ∃q,f=some (.yld q)
 ·obtain⟨q,rfl⟩:=c;rw[p]at h;cases g with
  | false=>simp[mE,Gb]at h
  | true=>have w:qQ true E.sm H (cb E dep (.yld q) args H)=some (v,H'):=h;obtain⟨H1,i,_⟩:=G4 w;obtain⟨n,d⟩:=zN.1 i;refine⟨n,λm e=>?_⟩;rw[p];show qQ true E.sm H (eM E (bZ E m) dep (.yld q) args H)=_;rw[d m e];rw[i]at w;exact w
 have j : ∀pc tc,nH E pc tc H r f args=none:=by
  intro pc tc;unfold nH;split;·exact(l ⟨_,_,_,rfl⟩).elim
  ·exact(c ⟨_,rfl⟩).elim
  rfl
 rw[p,j]at h;cases g<;>simp[mE,Gb,qQ]at h
def Ie{E:Env}{dep:Nat}{u j:Bool}{s:dF}{H:aa}{r:Ref}{o:Oper} :
 (∀q v,tH E (ax E) (cb E dep) dep u j s H r o = .inl q->q=some (v,[]) ->∃n,∀m,n<=m->tH E (cV E (bZ E m)) (eM E (bZ E m) dep) dep u j s H r o = .inl (some (v,[]))) /\
 (∀w v H',tH E (ax E) (cb E dep) dep u j s H r o = .inr w->w=some (v,H') ->∃n,∀m,n<=m->tH E (cV E (bZ E m)) (eM E (bZ E m) dep) dep u j s H r o = .inr (some (v,H'))):=by
 constructor
 ·intro q v h A;subst A;refine⟨0,λm _=>?_⟩;unfold tH at h ⊢;generalize o.op=op at h ⊢;cases op;all_goals try exact h
  case makeMap a b=>cases b<;>exact h
  rename_i c;dsimp only at h ⊢;cases i:Ck (cG s) c.args.toList with
  | none=>rw[i]at h;exact h
  | some args=>
   rw[i]at h;dsimp only at h ⊢;cases e:c.callee with
   | value f=>
    rw[e]at h;dsimp only at h ⊢;cases d:FG E.uI u f with
    | some t=>rw[d]at h;exact h
    | none=>rw[d]at h;dsimp only at h;split at h<;>cases h
   | invoke a b=>rw[e]at h;exact h
   | builtin b=>rw[e]at h;exact h
 intro w v H' h z;subst z;unfold tH at h ⊢;generalize o.op=op at h ⊢;cases op;all_goals try (exact⟨0,λm _=>h⟩)
 case makeMap a b=>cases b<;>exact⟨0,λm _=>h⟩
 rename_i c;dsimp only at h ⊢;cases i:Ck (cG s) c.args.toList with
 | none=>rw[i]at h;cases h
 | some args=>
  rw[i]at h;dsimp only at h ⊢;cases e:c.callee with
  | value f=>
   rw[e]at h;dsimp only at h ⊢;cases d:FG E.uI u f with
   | some t=>rw[d]at h;cases h
   | none=>
   rw[d]at h;dsimp only at h ⊢;cases g:E.gJ o with
   | true=>rw[g]at h;simp only[ze]at h;obtain⟨n,l⟩:=LH h;exact⟨n,λm p=>iQg _ (l m p)⟩
   | false=>rw[g]at h;simp only[ze]at h;obtain⟨n,l⟩:=Ol h;exact⟨n,λm p=>iQg _ (l m p)⟩
  | invoke a b=>rw[e]at h;cases h
  | builtin b=>rw[e]at h;exact⟨0,λm _=>h⟩
def J5{E:Env}{dep:Nat}{u d:Bool}{s:dF}{H:aa}{r:Ref}{o:Oper} :
 (∀q v,yK E (ax E) (cb E dep) dep u d s H r o = .inl q->q=some (v,[]) ->∃n,∀m,n<=m->yK E (cV E (bZ E m)) (eM E (bZ E m) dep) dep u d s H r o = .inl (some (v,[]))) /\
 (∀w v H',yK E (ax E) (cb E dep) dep u d s H r o = .inr w->w=some (v,H') ->∃n,∀m,n<=m->yK E (cV E (bZ E m)) (eM E (bZ E m) dep) dep u d s H r o = .inr (some (v,H'))):=by
 constructor
 ·intro q v h g;unfold yK at h ⊢;cases c:D5 E u s H r o with
  | some w=>rw[c]at h;cases h
  | none=>rw[c]at h;obtain⟨n,e⟩:=Ie.1 q v h g;exact⟨n,e⟩
 intro w v H' h f;unfold yK at h ⊢;cases c:D5 E u s H r o with
 | some w'=>rw[c]at h;cases h;exact⟨0,λm _=>by rw[f]⟩
 | none=>rw[c]at h;obtain⟨n,e⟩:=Ie.2 w v H' h f;exact⟨n,e⟩
abbrev Mk{c:Type}(a:c):Type:=Unit
structure jU (q:jk) (K:AV->Prop) (m:Mk K:=()):Prop where
 h : ∃v,q=some (v,[])/\K v
structure lE (w:cp) (K:AV->aa->Prop) (m:Mk K:=()):Prop where
 h : ∃v H,w=some (v,H)/\K v H
def ZV(x:AV)(c:Bool):Option Bool:=
 match x with
 | .v (.bool b)=>some (b == c)
 | .v (.tuple d)=>if d.isEmpty then some false else none
 | _=>none
def gd(x:AV)(c:Bool)(A B:Prop):Prop:=
 match ZV x c with
 | some true=>A
 | some false=>B
 | none=>False
structure gQ (x:AV) (want:Bool) (q:jk) (K:AV->Prop) (m:Mk (q,K):=()):Prop where
 h:gd x want (jU q K) (K AV.undef)
structure gW (x:AV) (want:Bool) (H:aa) (w:cp) (K:AV->aa->Prop) (m:Mk (w,K):=()):Prop where
 h:gd x want (lE w K) (K AV.undef H)
def brP(x:Option AV)(A B:Prop):Prop:=
 match x.bind Fc with
 | some b=>cond b A B
 | none=>False
structure br (x:Option AV) (A B:Prop) (m:Mk (A,B):=()):Prop where
 h:brP x A B
def Lz(ops:Array Oper)(s:dF)(o:Oper):Option (Option (AV × Bool)):=
 match o.guard with
 | none=>none
 | some (j,want)=>match (ops[j]?).bind (·.dst) with
  | some t=>some (some (s t,want))
  | none=>some none
def Ju(nt:Nat)(s:dF)(c:Option Tmp)(v:AV)(K:dF->Prop):Prop:=
 match c with
 | none=>K s
 | some d=>cond (Nat.blt d nt) (K (acn s d v)) False
def wpOp(E:Env)(nt dep:Nat)(u:Bool)(ops:Array Oper)(o:Oper)(s:dF)(H:aa)(K:dF->aa->Prop):Prop:=
 match yK E (ax E) (cb E dep) dep u (!(u && !il E o)) s H ⟨dep,o.dst.getD 0,H.gen dep (o.dst.getD 0),0⟩ o with
 | .inl q=>match Lz ops s o with
  | none=>(match o.op with
   | .move x | .assign x=>(match cG s x with
    | some v=>Ju nt s o.dst v λs=>K s H
    | none=>False)
   | _=>jU q λv=>Ju nt s o.dst v λs=>K s H)
  | some (some (x,want))=>gQ x want q λv=>Ju nt s o.dst v λs=>K s H
  | some none=>Ju nt s o.dst AV.undef λs=>K s H
 | .inr w=>match Lz ops s o with
  | none=>lE w λv H=>Ju nt s o.dst v λs=>K s H
  | some (some (x,want))=>gW x want H w λv H=>Ju nt s o.dst v λs=>K s H
  | some none=>Ju nt s o.dst AV.undef λs=>K s H
def wpOps(E:Env)(nt dep:Nat)(u:Bool)(ops:Array Oper):List Oper->dF->aa->(dF->aa->Prop)->Prop
 | [],s,H,K=>K s H
 | o :: os,s,H,K=>wpOp E nt dep u ops o s H λs H=>wpOps E nt dep u ops os s H K
def Fin(E:Env)(fn:Func)(rd:Option Ref)(o:Option St)(y:AV)(H':aa):Prop:=match rd with
 | none =>∃st,o=some st/\yG E.P fn st=some y/\st.hp=H'
 | some r =>∃st n,o=xM (some r) st n/\y = .v (.int .i64 (n:Nat))/\st.hp=H'
def Goes(E:Env)(fn:Func)(rd:Option Ref)(dep:Nat)(c:List Item)(s:dF)(H:aa)(Q:AV->aa->Prop):Prop:=
 ∀tm,dW tm s ->∃y H',Q y H' /\∃n,∀m,n<=m->Fin E fn rd (bZ E m rd fn.ntmps dep c ⟨tm,H⟩) y H'
def PW(g:dF):List (Nat × AV)->dF
 | [],i=>g i
 | (j,v) :: l,i=>cond (Nat.beq i j) v (PW g l i)
structure ZI (E:Env) (fn:Func) (rd:Option Ref) (dep:Nat) (items:List Item) (l:List (Nat × AV)) (H:aa) (Q:AV->aa->Prop):Prop where
 h : ∀g,Goes E fn rd dep items (PW g l) H Q
abbrev bu(E:Env)(fn:Func)(dep:Nat)(c:List Item)(l:List (Nat × AV))(H:aa)(Q:AV->aa->Prop):Prop:=ZI E fn none dep c l H Q
def Dt(s:dF):List Nat->List (Nat × AV)
 | []=>[]
 | t :: c=>(t,s t) :: Dt s c
def VY(s:dF)(l:List Nat):PW s (Dt s l)=s:=by
 induction l with| nil=>rfl| cons t l c=>
  funext i;show cond (Nat.beq i t) (s t) (PW s (Dt s l) i)=s i;rw[c];cases h:Nat.beq i t with
  | true=>rw[mK h];rfl
  | false=>rfl
def lV:Code->Option Nat
 | .region id _ _=>some id
 | .seq a b=>match lV a with
  | some i=>some i
  | none=>lV b
 | .cond _ a b=>match lV a with
  | some i=>some i
  | none=>lV b
 | .block _ c | .loop c | .scope c=>lV c
 | _=>none
def A8(P:Program)(H:aa)(x:AV)(t:TypeId):jk:=
 match x,dL P t,aA P t with
 | .ptr r i j,some g,some n=>match H.get r with
  | some b=>kC (bL b.es i j n g)
  | none=>none
 | _,_,_=>none
def pack:List AV->AV
 | [] => .v (.tuple #[])
 | [x]=>x
 | xs => .tup xs
def G0(P:Program)(s:dF)(H:aa)(Q:AV->aa->Prop):List ResultVar->List AV->Prop
 | [],acc=>Q (pack acc.reverse) H
 | .tmp t :: rs,acc=>G0 P s H Q rs (s t :: acc)
 | .cell a t :: rs,acc=>jU (A8 P H (s a) t) λv=>G0 P s H Q rs (v :: acc)
def lL(x y:AV):Bool:=match fC x,fC y with
 | some r,some r'=>decide (r≠r')
 | _,_=>true
def nV(H:aa)(x:AV):Bool:=match x with
 | .ptr r _ _=>(match H.get r with
  | some b => !b.arr
  | none=>false)
 | _=>true
def bsV(x:AV):Bool:=match x with
 | .bN .. => true
 | .v _=>true
 | _=>false
def Vu(s:dF)(p:Tmp × Tmp):Bool:=lL (s p.1) (s p.2)
def Hz(s:dF)(H:aa)(o:Oper):Bool:=match o.op with
 | .store _ (.tmp t) _=>nV H (s t)
 | _=>true
def RH(E:Env)(s:dF)(o:Oper):Bool := !(E.gJ o&&Bq o.op)||(match bsT o.op with
 | some t=>bsV (s t)
 | none=>false)
def Xn(E:Env)(l:List (Tmp × Tmp))(ops:Array Oper)(s:dF)(H:aa):Prop:=l.all (Vu s)=true/\ops.toList.all (Hz s H)=true/\ops.toList.all (RH E s)=true
def iB(l:List (AV × AV))(st c:List AV)(H:aa):Prop:=(l.all λp=>lL p.1 p.2)=true/\st.all (nV H)=true/\c.all bsV=true
def Z6(assign body:Code):Nat:=match lV (.seq assign body) with
 | some i=>i+10000
 | none=>10000
structure bgP (o:Option (Nat × AV)) (K:AV->Prop) (m:Mk K:=()):Prop where
 h : ∃info,o=some (0,info)/\K info
def L0(P:Program)(fn:Func)(rd:Option Ref)(c:Nat)(s:dF)(H:aa)(Q:AV->aa->Prop):Prop:=match rd with
 | none=>cond (Nat.ble c 2) (G0 P s H Q fn.results.toList []) False
 | some _=>Q (.v (.int .i64 c)) H
def wp(E:Env)(fn:Func)(rd:Option Ref)(dep:Nat)(live:Nat->Option (List Nat))(cut:Nat->Bool)(Q:AV->aa->Prop):Nat->List Item->dF->aa->Prop
 | 0,items,s,H=>Goes E fn rd dep items s H Q
 | n+1,items,s,H=>
  match items with
  | []=>L0 E.P fn rd 0 s H Q
  | .beginRound :: k=>(match rd with
   | none=>False
   | some r=>bgP (zM H r) λd=>wp E fn rd dep live cut Q n k s (H.put r (some (k7 1 d))))
  | .code c :: k=>
   (match c with
   | .skip | .label _=>wp E fn rd dep live cut Q n k s H
   | .ret=>L0 E.P fn rd 2 s H Q
   | .seq a b=>wp E fn rd dep live cut Q n (.code a :: .code b :: k) s H
   | .cond c a b=>br (cG s c) (wp E fn rd dep live cut Q n (.code a :: k) s H) (wp E fn rd dep live cut Q n (.code b :: k) s H)
   | .block id b=>wp E fn rd dep live cut Q n (.code b :: .inBlock id :: k) s H
   | .scope b=>wp E fn rd dep live cut Q n (.code b :: .inScope b :: k) s H
   | .loop b=>(match (lV b).bind live with
    | some l=>ZI E fn rd dep (.inLoop b :: k) (Dt s l) H Q
    | none=>Goes E fn rd dep (.inLoop b :: k) s H Q)
   | .exit id=>(match exitTo id k with
    | some k'=>wp E fn rd dep live cut Q n k' s H
    | none=>L0 E.P fn rd (id+3) s H Q)
   | .rangeFunc g ps a b=>(match live (Z6 a b) with
    | some l=>ZI E fn rd dep (.code (.rangeFunc g ps a b) :: k) (Dt s l) H Q
    | none=>Goes E fn rd dep (.code (.rangeFunc g ps a b) :: k) s H Q)
   | .region id ops u=>(match cut id with
    | true=>(match live id with
     | some l=>ZI E fn rd dep (.code (.region id ops u) :: k) (Dt s l) H Q
     | none=>False)
    | false=>wpOps E fn.ntmps dep u ops ops.toList s H λs H=>
     (match u,sC E ops with
     | true,p :: ps=>Xn E (p :: ps) ops s H/\wp E fn rd dep live cut Q n k s H
     | _,_=>wp E fn rd dep live cut Q n k s H))
   | _=>False)
  | .inLoop b :: k=>(match (lV b).bind live with
   | some l=>ZI E fn rd dep (.inLoop b :: k) (Dt s l) H Q
   | none=>Goes E fn rd dep (.inLoop b :: k) s H Q)
  | .inBlock _ :: k | .inScope _ :: k=>wp E fn rd dep live cut Q n k s H
  | _=>False
def uc{ops:Array Oper}{tm:List AV}{s:dF}(h:dW tm s)(o:Oper):wanted ops tm o=(match Lz ops s o with
 | none=>some true
 | some (some (x,c))=>ZV x c
 | some none=>some false):=by
 unfold wanted Lz;split;·rename_i d;rw[d]
 rename_i j c d;rw[d];dsimp only;split;·rename_i t e;rw[e];dsimp only;rw[h t];rfl
 rename_i e;rw[e]
def wV{nt:Nat}{s:dF}{c:Option Tmp}{v:AV}{K:dF->Prop}(h:Ju nt s c v K) : ∃i,K i /\∀tm,dW tm s ->∃tm',cQ nt tm c v=some tm'/\dW tm' i:=by
 unfold Ju at h;cases c with
 | none=>exact⟨s,h,λtm f=>⟨tm,rfl,f⟩⟩
 | some d=>
  dsimp only at h;cases e:Nat.blt d nt with
  | false=>rw[e]at h;exact h.elim
  | true=>rw[e]at h;refine⟨_,h,λtm f=>⟨_,?_,f.set d v⟩⟩;have g:d<nt:=GX e;simp only[cQ,if_pos g]
def XL{E:Env}{nt dep:Nat}{u:Bool}{ops:Array Oper}{o:Oper}{s:dF}{H:aa}{K:dF->aa->Prop}(h:wpOp E nt dep u ops o s H K) :
 ∃c H',K c H' /\∀tm,dW tm s ->∃tm',dW tm' c /\∃n,∀m,n<=m->Ar E (cV E (bZ E m)) (eM E (bZ E m) dep) nt dep u ops o ⟨tm,H⟩=some ⟨tm',H'⟩:=by
 have run : ∀(v:AV)(H':aa)(c:dF),(∀tm,dW tm s->wanted ops tm o=some true)->(∃n,∀m,n<=m ->∀tm,dW tm s->yP E (cV E (bZ E m)) (eM E (bZ E m) dep) dep u tm H o=some (v,H')) ->
  (∀tm,dW tm s ->∃tm',cQ nt tm o.dst v=some tm'/\dW tm' c) ->
  ∀tm,dW tm s ->∃tm',dW tm' c /\∃n,∀m,n<=m->Ar E (cV E (bZ E m)) (eM E (bZ E m) dep) nt dep u ops o ⟨tm,H⟩=some ⟨tm',H'⟩:=by
  intro v H' c p ⟨n,F⟩ hp tm d;obtain⟨tm',L,M⟩:=hp tm d;refine⟨tm',M,n,λm G=>?_⟩;rw[LC];dsimp only;rw[p tm d,F m G tm d];dsimp only;rw[L];rfl
 have i : ∀(c:dF),(∀tm,dW tm s->wanted ops tm o=some false)->(∀tm,dW tm s ->∃tm',cQ nt tm o.dst AV.undef=some tm'/\dW tm' c) ->
  ∀tm,dW tm s ->∃tm',dW tm' c /\∃n,∀m,n<=m->Ar E (cV E (bZ E m)) (eM E (bZ E m) dep) nt dep u ops o ⟨tm,H⟩=some ⟨tm',H⟩:=by
  intro c p hp tm d;obtain⟨tm',L,M⟩:=hp tm d;refine⟨tm',M,0,λm _=>?_⟩;rw[LC];dsimp only;rw[p tm d];dsimp only;rw[L];rfl
 unfold wpOp at h;split at h
 ·rename_i q l;have A : ∀v,q=some (v,[]) ->∃n,∀m,n<=m ->∀tm,dW tm s->yP E (cV E (bZ E m)) (eM E (bZ E m) dep) dep u tm H o=some (v,H):=by
   intro v e;obtain⟨n,F⟩:=J5.1 q v l e;exact⟨n,λm G tm d=>YJ d (F m G) rfl⟩
  split at h
  ·rename_i j;have p : ∀tm,dW tm s->wanted ops tm o=some true:=λtm d=>by rw[uc d,j]
   have f : ∀v,q=some (v,[])->Ju nt s o.dst v (λs=>K s H) ->∃c H',K c H' /\∀tm,dW tm s ->∃tm',dW tm' c /\∃n,∀m,n<=m->Ar E (cV E (bZ E m)) (eM E (bZ E m) dep) nt dep u ops o ⟨tm,H⟩=some ⟨tm',H'⟩:=(by intro v e hp;obtain⟨c,g,hp⟩:=wV hp;exact⟨c,H,g,run v H c p (A v e) hp⟩);split at h
   ·rename_i x J;split at h;·rename_i v e;refine f v ?_ h;unfold yK D5 DZ tH at l;simp only[J,dop,AK,B3,if_true,AQ,e]at l;rw[<-l];rfl
    exact h.elim
   ·rename_i x J;split at h;·rename_i v e;refine f v ?_ h;unfold yK D5 DZ tH at l;simp only[J,dop,AK,B3,if_true,AQ,e]at l;rw[<-l];rfl
    exact h.elim
   obtain⟨v,e,h⟩:=h.h;exact f v e h
  ·rename_i x B j;replace h:=h.h;unfold gd at h;split at h;·rename_i z;obtain⟨v,e,h⟩:=h.h;obtain⟨c,g,hp⟩:=wV h;exact⟨c,H,g,run v H c (λtm d=>by rw[uc d,j];exact z) (A v e) hp⟩
   ·rename_i z;obtain⟨c,g,hp⟩:=wV h;exact⟨c,H,g,i c (λtm d=>by rw[uc d,j];exact z) hp⟩
   exact h.elim
  rename_i j;obtain⟨c,g,hp⟩:=wV h;exact⟨c,H,g,i c (λtm d=>by rw[uc d,j]) hp⟩
 rename_i w p;have I : ∀v H',w=some (v,H') ->∃n,∀m,n<=m ->∀tm,dW tm s->yP E (cV E (bZ E m)) (eM E (bZ E m) dep) dep u tm H o=some (v,H'):=by
  intro v H' e;obtain⟨n,F⟩:=J5.2 w v H' p e;exact⟨n,λm G tm d=>YI d (F m G) rfl⟩
 split at h;·rename_i j;obtain⟨v,H',e,h⟩:=h.h;obtain⟨c,g,hp⟩:=wV h;exact⟨c,H',g,run v H' c (λtm d=>by rw[uc d,j]) (I v H' e) hp⟩
 ·rename_i x B j;replace h:=h.h;unfold gd at h;split at h;·rename_i z;obtain⟨v,H',e,h⟩:=h.h;obtain⟨c,g,hp⟩:=wV h;exact⟨c,H',g,run v H' c (λtm d=>by rw[uc d,j];exact z) (I v H' e) hp⟩
  ·rename_i z;obtain⟨c,g,hp⟩:=wV h;exact⟨c,H,g,i c (λtm d=>by rw[uc d,j];exact z) hp⟩
  exact h.elim
 rename_i j;obtain⟨c,g,hp⟩:=wV h;exact⟨c,H,g,i c (λtm d=>by rw[uc d,j]) hp⟩
def Ui{E:Env}{nt dep:Nat}{u:Bool}{ops:Array Oper}{K:dF->aa->Prop} : ∀ {l:List Oper} {s:dF} {H:aa},wpOps E nt dep u ops l s H K ->
 ∃g H',K g H' /\∀tm,dW tm s ->∃tm',dW tm' g /\∃n,∀m,n<=m->nW E (cV E (bZ E m)) (eM E (bZ E m) dep) nt dep u ops l ⟨tm,H⟩=some ⟨tm',H'⟩:=by
 intro l;induction l with
 | nil=>intro s H h;exact⟨s,H,h,λtm f=>⟨tm,f,0,λm _=>rfl⟩⟩
 | cons o l v=>intro s H h;obtain⟨s1,H1,p,c⟩:=XL h;obtain⟨s2,H2,q,e⟩:=v p;refine⟨s2,H2,q,λtm f=>?_⟩;obtain⟨tm1,t1,n1,i⟩:=c tm f;obtain⟨d,t2,n2,j⟩:=e tm1 t1;exact⟨d,t2,max n1 n2,λm w=>by simp only[nW,i m (by omega),j m (by omega)]⟩
def Uh{P:Program}{fn:Func}{s:dF}{H:aa}{Q:AV->aa->Prop} : ∀ {rs:List ResultVar} {c:List AV},G0 P s H Q rs c ->
 ∃ys,Q (pack (c.reverse++ys)) H /\∀tm,dW tm s->rs.mapM (mc P ⟨tm,H⟩)=some ys:=by
 intro rs;induction rs with
 | nil=>intro c h;exact⟨[],by simpa [G0] using h,λtm _=>rfl⟩
 | cons r rs p=>
  intro c h;cases r with
  | tmp t=>obtain⟨ys,l,m⟩:=p h;refine⟨s t :: ys,by simpa using l,λtm f=>?_⟩;simp only[mH,mc,m tm f,f t,rR,s7,eJ]
  | cell a t=>
   obtain⟨v,d,h⟩:=h.h;obtain⟨ys,l,m⟩:=p h;refine⟨v :: ys,by simpa using l,λtm f=>?_⟩;have q:mc P ⟨tm,H⟩ (.cell a t)=some v:=by
    unfold A8 at d;simp only[mc,f a];split at d
    ·rename_i r i j g n F G A;rw[F,G,A];dsimp only;split at d;·rename_i b B;rw[B];dsimp only;simp only[kC,bG]at d;obtain⟨z,w,e⟩:=d;cases e;exact w
     cases d
    cases d
   simp only[mH,q,m tm f,rR,s7,eJ]
def MM{E:Env}{fn:Func}{s:dF}{H:aa}{Q:AV->aa->Prop}(h:G0 E.P s H Q fn.results.toList []) : ∃y,Q y H /\∀tm,dW tm s->yG E.P fn ⟨tm,H⟩=some y:=by
 obtain⟨ys,c,e⟩:=Uh (fn:=fn) h;refine⟨pack ys,by simpa using c,λtm d=>?_⟩;unfold yG;rw[e tm d];match ys with
 | []=>rfl
 | [x]=>rfl
 | x :: y :: zs=>rfl
def pk{E:Env}{fn:Func}{rd:Option Ref}{dep:Nat}{d c:List Item}{s:dF}{H:aa}{Q:AV->aa->Prop}
 (e : ∀n tm,bZ E (n+1) rd fn.ntmps dep d ⟨tm,H⟩=bZ E n rd fn.ntmps dep c ⟨tm,H⟩) (h:Goes E fn rd dep c s H Q):Goes E fn rd dep d s H Q:=by
 intro tm g;obtain⟨y,H',f,n,i⟩:=h tm g;refine⟨y,H',f,n+1,λm l=>?_⟩;obtain⟨m,rfl⟩ : ∃j,m=j+1:=⟨m - 1,by omega⟩;rw[e];exact i m (by omega)
def Tn{E:Env}{fn:Func}{rd:Option Ref}{dep:Nat}{b:Code}{k:List Item}{s:dF}{H:aa}{Q:AV->aa->Prop}(h:Goes E fn rd dep (.code b :: .inLoop b :: k) s H Q):Goes E fn rd dep (.inLoop b :: k) s H Q:=
 pk (λn tm=>by simp only[bZ]) h
def Qi{E:Env}{fn:Func}{rd:Option Ref}{dep:Nat}{b:Code}{k:List Item}{s:dF}{H:aa}{Q:AV->aa->Prop}(h:Goes E fn rd dep (.inLoop b :: k) s H Q):Goes E fn rd dep (.code (.loop b) :: k) s H Q:=by
 intro tm d;obtain⟨y,H',c,n,f⟩:=h tm d;refine⟨y,H',c,n+1,λm i=>?_⟩;obtain⟨m,rfl⟩ : ∃g,m=g+1:=⟨m - 1,by omega⟩;have:=f (m+1) (by omega);have e:bZ E (m+1) rd fn.ntmps dep (.code (.loop b) :: k) ⟨tm,H⟩=bZ E (m+1) rd fn.ntmps dep (.inLoop b :: k) ⟨tm,H⟩:=by simp only[bZ]
 rw[e];exact this
def Kj{E:Env}{fn:Func}{rd:Option Ref}{dep:Nat}{c:List Item}{s:dF}{l:List Nat}{H:aa}{Q:AV->aa->Prop}(h:ZI E fn rd dep c (Dt s l) H Q):Goes E fn rd dep c s H Q:=by
 have:=h.h s;rwa [VY]at this
def Iz{E:Env}{fn:Func}{rd:Option Ref}{dep c:Nat}{d:List Item}{s:dF}{H:aa}{Q:AV->aa->Prop}
 (g : ∀n tm,rd.isSome=true\/c<=2->bZ E (n+1) rd fn.ntmps dep d ⟨tm,H⟩=(match rd with | none=>some ⟨tm,H⟩ | some r=>xM (some r) ⟨tm,H⟩ c)) (h:L0 E.P fn rd c s H Q):Goes E fn rd dep d s H Q:=by
 intro tm p;cases rd with
 | none=>
  unfold L0 at h;dsimp only at h;cases e:Nat.ble c 2 with
  | false=>rw[e]at h;exact h.elim
  | true=>rw[e]at h;obtain⟨y,l,i⟩:=MM h;refine⟨y,H,l,1,λm j=>?_⟩;obtain⟨m,rfl⟩ : ∃f,m=f+1:=⟨m - 1,by omega⟩;exact⟨⟨tm,H⟩,g m tm (.inr (GX e)),i tm p,rfl⟩
 | some r=>refine⟨.v (.int .i64 c),H,h,1,λm j=>?_⟩;obtain⟨m,rfl⟩ : ∃f,m=f+1:=⟨m - 1,by omega⟩;exact⟨⟨tm,H⟩,c,g m tm (.inl rfl),rfl,rfl⟩
def TM{E:Env}{ops:Array Oper}{s:dF}{H:aa}{tm:List AV}(c:dW tm s)(h:Xn E (sC E ops) ops s H):tX E ops ⟨tm,H⟩=true:=by
 unfold tX;rw[fp,aT];refine .inr ⟨?_,?_⟩;·refine Eq.trans ?_ h.1;congr 1;funext p;unfold FC Vu lL;rw[c,c];rfl
 rw[aT];refine⟨Eq.trans ?_ h.2.1,Eq.trans ?_ h.2.2⟩
 ·congr 1;funext o;unfold yB Hz;generalize o.op=op;cases op<;>try rfl
  rename_i t a x;cases a<;>try rfl
  rename_i t';dsimp only;rw[c t'];rfl
 congr 1;funext o;unfold IV RH;congr 1;cases bsT o.op with
 | none=>rfl
 | some t=>dsimp only;rw[c t];rfl
def LZ{E:Env}{fn:Func}{rd:Option Ref}{dep:Nat}{live:Nat->Option (List Nat)}{cut:Nat->Bool}{Q:AV->aa->Prop} : ∀ {n:Nat} {d:List Item} {s:dF} {H:aa},
 wp E fn rd dep live cut Q n d s H->Goes E fn rd dep d s H Q:=by
 intro n;induction n with
 | zero=>intro d s H h;exact h
 | succ n f=>
  intro d s H h;have g : ∀ {k:List Item} {x:Option (List Nat)},(match x with | some l=>ZI E fn rd dep k (Dt s l) H Q | none=>Goes E fn rd dep k s H Q)->Goes E fn rd dep k s H Q:=by
   intro k x h;cases x with
   | some l=>exact Kj h
   | none=>exact h
  unfold wp at h;split at h;·exact Iz (λn tm _=>by cases rd<;>simp only[bZ]) h
  ·rename_i k;split at h;·exact h.elim
   rename_i r;obtain⟨info,N,h⟩:=h.h;intro tm i;obtain⟨y,H',v,n,B⟩:=f h tm i;refine⟨y,H',v,n+1,λm K=>?_⟩;obtain⟨m,rfl⟩ : ∃q,m=q+1:=⟨m - 1,by omega⟩;have:=B m (by omega);have e:bZ E (m+1) (some r) fn.ntmps dep (.beginRound :: k) ⟨tm,H⟩=bZ E m (some r) fn.ntmps dep k ⟨tm,H.put r (some (k7 1 info))⟩:=by simp only[bZ,N]
   rw[e];exact this
  ·rename_i c k;split at h;·exact pk (λn tm=>by simp only[bZ]) (f h)
   ·exact pk (λn tm=>by simp only[bZ]) (f h)
   ·exact Iz (λn tm _=>by cases rd<;>simp[bZ,xM]) h
   ·exact pk (λn tm=>by simp only[bZ]) (f h)
   ·rename_i c a b;replace h:=h.h;unfold brP at h;split at h
    ·rename_i z R;have F:Goes E fn rd dep (.code (cond z a b) :: k) s H Q:=by cases z<;>exact f h
     intro tm i;obtain⟨y,H',v,n,B⟩:=F tm i;refine⟨y,H',v,n+1,λm K=>?_⟩;obtain⟨m,rfl⟩ : ∃q,m=q+1:=⟨m - 1,by omega⟩;have:=B m (by omega);have e:bZ E (m+1) rd fn.ntmps dep (.code (.cond c a b) :: k) ⟨tm,H⟩=bZ E m rd fn.ntmps dep (.code (cond z a b) :: k) ⟨tm,H⟩:=by
      simp only[bZ,vV i,R];cases z<;>rfl
     rw[e];exact this
    exact h.elim
   ·exact pk (λn tm=>by simp only[bZ]) (f h)
   ·exact pk (λn tm=>by simp only[bZ]) (f h)
   ·exact Qi (g h)
   ·rename_i id;split at h;·rename_i k' A;exact pk (λn tm=>by simp only[bZ,A]) (f h)
    rename_i A;exact Iz (λn tm w=>by
     simp only[bZ,A];cases rd with
     | none=>
      rcases w with w | w
      ·cases w
      omega
     | some r=>rfl) h
   ·exact g h
   ·rename_i id ops u;split at h
    ·split at h;·exact Kj h
     exact h.elim
    obtain⟨L,H',j,G⟩:=Ui h;have M:Goes E fn rd dep k L H' Q /\∀tm,dW tm L->(u && !tX E ops ⟨tm,H'⟩)=false:=by
     cases u with| false=>exact⟨f j,λ_ _=>rfl⟩| true=>
      cases hp:sC E ops with
      | nil=>rw[hp]at j;refine⟨f j,λtm i=>?_⟩;unfold tX;rw[hp];rfl
      | cons p ps=>rw[hp]at j;exact⟨f j.2,λtm i=>by rw[TM i (by rw[hp];exact j.1)];rfl⟩
    obtain⟨F,J⟩:=M;intro tm i;obtain⟨tm1,t1,n1,O⟩:=G tm i;obtain⟨y,H2,v,n2,I⟩:=F tm1 t1;refine⟨y,H2,v,max n1 n2+1,λm K=>?_⟩;obtain⟨m,rfl⟩ : ∃q,m=q+1:=⟨m - 1,by omega⟩;have:=I m (by omega);have e:bZ E (m+1) rd fn.ntmps dep (.code (.region id ops u) :: k) ⟨tm,H⟩=bZ E m rd fn.ntmps dep k ⟨tm1,H'⟩:=(by simp only[bZ,O m (by omega),J tm1 t1];simp);rw[e];exact this
   exact h.elim
  ·exact g h
  ·exact pk (λn tm=>by simp only[bZ]) (f h)
  ·exact pk (λn tm=>by simp only[bZ]) (f h)
  exact h.elim
def uC:Nat->List AV->List (Nat × AV)
 | _,[]=>[]
 | i,x :: xs=>(i,x) :: uC (i+1) xs
def Ih(args:List AV)(i:Nat):PW (λ_=>AV.undef) (uC 0 args) i=dA args i:=by
 have : ∀(j:Nat)(l:List AV),PW (λ_=>AV.undef) (uC j l) (j+i)=dA l i:=by
  induction i with
  | zero=>
   intro j l;cases l with
   | nil=>rfl
   | cons x l=>show cond (Nat.beq (j+0) j) x _=x;rw[show Nat.beq (j+0) j=true from by simp];rfl
  | succ i c=>
   intro j l;cases l with
   | nil=>rfl
   | cons x l=>
    show cond (Nat.beq (j+(i+1)) j) x (PW (λ_=>AV.undef) (uC (j+1) l) (j+(i+1)))=dA l i;have e:Nat.beq (j+(i+1)) j=false:=by
     cases h:Nat.beq (j+(i+1)) j with| false=>rfl| true=>have:=mK h;omega
    rw[e];show PW _ _ _=_;rw[<-c (j+1) l,show j+1+i=j+(i+1) by omega]
 simpa using this 0 args
def handed(E:Env)(f:FuncId)(x:AV)(H:aa)(y:AV):Prop:=
 if Bi (E.mode f)=true then (ah H.get depth x).Nodup/\bK H.get depth x=some y else view H.get depth x=some y
def YT{E:Env}{f:FuncId}{fn:Func}{c:Code}{args:List AV}{y:AV}(j:E.spec f args=none)(g:E.allowed f=true)(p:E.P.funcs[f]?=some fn)(l:fn.body=some c)(q:Nat.ble args.length fn.ntmps=true)
 (h:bu E fn 0 [.code c] (uC 0 args) [] λx H=>handed E f x H y):ax E f args=some y:=by
 rw[BO];obtain⟨x,H,d,n,v⟩:=h.h (λ_=>AV.undef) args λi=>(Ih args i).symm;refine⟨n,λm w=>?_⟩;obtain⟨st,e,A,z⟩:=v m w;subst z;unfold cV;rw[j];unfold vZ;simp only[g,if_true,p,l,if_pos (GX q),e,A,Option.map_some];unfold handed at d;split;·rename_i e;rw[if_pos e]at d;rw[if_pos d.1];exact d.2
 rename_i e;rw[if_neg e]at d;exact d
def nN{E:Env}{f:FuncId}{fn:Func}{c:Code}{dep:Nat}{args:List AV}{H:aa}{Q:AV->aa->Prop}(v:E.mode f=2)(e:E.allowed f=true)(l:E.P.funcs[f]?=some fn)(j:fn.body=some c)(p:Nat.ble args.length fn.ntmps=true)
 (h:bu E fn (dep+1) [.code c] (uC 0 args) H Q) (g:E.thrSpec f args H=none:=by rfl) : ∃y H',cb E dep (.fn f) args H=some (y,H')/\Q y H':=by
 obtain⟨x,H1,w,n,q⟩:=h.h (λ_=>AV.undef) args λi=>(Ih args i).symm;refine⟨x,H1,zN.2 ⟨n,λm d=>?_⟩,w⟩;obtain⟨st,z,B,A⟩:=q m d;unfold eM;dsimp only;rw[g];dsimp only;rw[if_pos v];unfold vZ;simp only[e,if_true,l,j,if_pos (GX p),z,B,Option.map_some,A]
def Wp{E:Env}{fn:Func}{dep nt:Nat}{r:Ref}{f:FuncId}{ps:List Tmp}{assign body:Code}{tm:List AV}{args:List AV}{H:aa}{Q:AV->aa->Prop}
 (z:zM H r=some (0,.lp f nt ps assign body tm)) (A:fn.ntmps=nt) (hp:args.length=ps.length) (w:ps.all (· < nt)=true) (J:codeOk E.ok assign=true) (I:codeOk E.ok body=true)
 (h:Goes E fn (some r) (dep+1) [.code assign,.beginRound,.code body] (dA (xI tm ps args)) H λx H' =>∃c:Nat,x = .v (.int .i64 c) /\∃d H2,zM H' r=some (1,d)/\H2=H'.put r (some (k7 c d)) /\
  zM H2 r=some (c,d)/\(c=0->Q (.v (.bool true)) H2)/\(2<=c->Q (.v (.bool false)) H2)/\c≠1) :
 ∃y H',cb E dep (.yld r) args H=some (y,H')/\Q y H':=by
 obtain⟨x,H1,⟨c,rfl,d,H2,G,rfl,K,j,l,e⟩,n,q⟩:=h (xI tm ps args) (λi=>rfl);have key : ∀m,n<=m->BJ E (bZ E m) (dep+1) r args H=some (.v (.bool (c == 0)),H1.put r (some (k7 c d))):=by
  intro m B;obtain⟨st,k,F,g,L⟩:=q m B;injection g with g
  injection g with g p
  have p:c=k:=(by exact_mod_cast p);subst p;subst A;unfold BJ;rw[z];simp only;rw[if_pos ⟨hp,w,J,I⟩,F];unfold xM;simp only[L,G,K];match c with
  | 0=>rfl
  | 1=>exact(e rfl).elim
  | k+2=>rfl
 have ago : ∀m,n<=m->eM E (bZ E m) dep (.yld r) args H=some (.v (.bool (c == 0)),H1.put r (some (k7 c d))):=key;refine⟨_,_,zN.2 ⟨n,ago⟩,?_⟩;match c with
 | 0=>exact j rfl
 | 1=>exact(e rfl).elim
 | k+2=>exact l (by omega)
def Qh{E:Env}{fn:Func}{dep:Nat}{g:Operand}{ps:Array Tmp}{assign body:Code}{k:List Item}{s:dF}{H:aa}{Q:AV->aa->Prop}{gi:FuncId}{first captured:List AV}
 (A:cG s g=some (.fn (.func gi) first captured))
 (h : ∀tm,dW tm s ->∃v c st d,cb E dep (.fn gi) (first++[.yld ⟨dep,fn.ntmps,H.gen dep fn.ntmps,0⟩]++captured) ((⟨dep,fn.ntmps,H.gen dep fn.ntmps,0⟩,some (k7 0 (.lp 0 fn.ntmps ps.toList assign body tm))) :: H)=some (v,c) /\
  zM c ⟨dep,fn.ntmps,H.gen dep fn.ntmps,0⟩=some (st,d) /\
  (
   (st=0/\Goes E fn none dep k s (c.put ⟨dep,fn.ntmps,H.gen dep fn.ntmps,0⟩ none) Q) \/
   (st=2/\G0 E.P s (c.put ⟨dep,fn.ntmps,H.gen dep fn.ntmps,0⟩ none) Q fn.results.toList []) \/
   (∃id k',st=id+3/\exitTo id k=some k'/\Goes E fn none dep k' s (c.put ⟨dep,fn.ntmps,H.gen dep fn.ntmps,0⟩ none) Q))) :
 Goes E fn none dep (.code (.rangeFunc g ps assign body) :: k) s H Q:=by
 intro tm q;obtain⟨v,c,st,d,B,w,F⟩:=h tm q;obtain⟨n1,f⟩:=zN.1 B;have i:aC tm g=some (.fn (.func gi) first captured):=by rw[vV q];exact A
 rcases F with ⟨rfl,l⟩ | ⟨rfl,l⟩ | ⟨id,k',rfl,he,l⟩
 ·obtain⟨y,H',p,n2,j⟩:=l tm q;refine⟨y,H',p,max n1 n2+1,λm z=>?_⟩;obtain⟨m,rfl⟩ : ∃n,m=n+1:=⟨m - 1,by omega⟩;have e:bZ E (m+1) none fn.ntmps dep (.code (.rangeFunc g ps assign body) :: k) ⟨tm,H⟩=bZ E m none fn.ntmps dep k ⟨tm,c.put ⟨dep,fn.ntmps,H.gen dep fn.ntmps,0⟩ none⟩:=(by simp only[bZ,i,f m (by omega),w]);rw[e];exact j m (by omega)
 ·obtain⟨y,p,G⟩:=MM l;refine⟨y,_,p,n1+1,λm z=>?_⟩;obtain⟨m,rfl⟩ : ∃n,m=n+1:=⟨m - 1,by omega⟩;have e:bZ E (m+1) none fn.ntmps dep (.code (.rangeFunc g ps assign body) :: k) ⟨tm,H⟩=some ⟨tm,c.put ⟨dep,fn.ntmps,H.gen dep fn.ntmps,0⟩ none⟩:=(by simp only[bZ,i,f m (by omega),w]);rw[e];exact⟨_,rfl,G tm q,rfl⟩
 obtain⟨y,H',p,n2,j⟩:=l tm q;refine⟨y,H',p,max n1 n2+1,λm z=>?_⟩;obtain⟨m,rfl⟩ : ∃n,m=n+1:=⟨m - 1,by omega⟩;have e:bZ E (m+1) none fn.ntmps dep (.code (.rangeFunc g ps assign body) :: k) ⟨tm,H⟩=bZ E m none fn.ntmps dep k' ⟨tm,c.put ⟨dep,fn.ntmps,H.gen dep fn.ntmps,0⟩ none⟩:=(by simp only[bZ,i,f m (by omega),w,he]);rw[e];exact j m (by omega)
def Wq{E:Env}{f:FuncId}{args:List AV}{y:AV}(h:ax E f args=some y) : ∃n,cV E (bZ E n) f args=some y:=by
 obtain⟨n,c⟩:=BO.1 h;exact⟨n,c n (cH _)⟩
def p8(r:Nat):Nat->List Item->Option (List Item)
 | 0,_=>none
 | n+1,items=>
  match items with
  | .code c :: k=>(match c with
   | .seq a b=>p8 r n (.code a :: .code b :: k)
   | .cond _ a b=>(match p8 r n (.code a :: k) with
    | some l=>some l
    | none=>p8 r n (.code b :: k))
   | .block id b=>p8 r n (.code b :: .inBlock id :: k)
   | .scope b=>p8 r n (.code b :: .inScope b :: k)
   | .loop b=>(match lV b with
    | some i=>cond (Nat.beq i r) (some (.inLoop b :: k)) (p8 r n (.code b :: .inLoop b :: k))
    | none=>none)
   | .exit id=>(match exitTo id k with
    | some k'=>p8 r n k'
    | none=>none)
   | .skip | .label _ | .region _ _ _=>p8 r n k
   | _=>none)
  | .inBlock _ :: k | .inScope _ :: k=>p8 r n k
  | _=>none
def mT(r:Nat):Nat->List Item->Option (List Item)
 | 0,_=>none
 | n+1,items=>
  match items with
  | .code c :: k=>(match c with
   | .seq a b=>mT r n (.code a :: .code b :: k)
   | .cond _ a b=>(match mT r n (.code a :: k) with
    | some l=>some l
    | none=>mT r n (.code b :: k))
   | .block id b=>mT r n (.code b :: .inBlock id :: k)
   | .scope b=>mT r n (.code b :: .inScope b :: k)
   | .loop b=>mT r n (.code b :: .inLoop b :: k)
   | .exit id=>(match exitTo id k with
    | some k'=>mT r n k'
    | none=>none)
   | .rangeFunc _ _ a b=>cond (Nat.beq (Z6 a b) r) (some items) (mT r n k)
   | .skip | .label _ | .region _ _ _=>mT r n k
   | _=>none)
  | .inBlock _ :: k | .inScope _ :: k=>mT r n k
  | _=>none
def rfA:List Item->Code
 | .code (.rangeFunc _ _ a _) :: _=>a
 | _ => .skip
def rfB:List Item->Code
 | .code (.rangeFunc _ _ _ b) :: _=>b
 | _ => .skip
def rfK:List Item->List Item
 | _ :: k=>k
 | []=>[]
def Qv:List Item->List Item
 | .inLoop b :: k => .code b :: .inLoop b :: k
 | l=>l
def WE{E:Env}{fn:Func}{rd:Option Ref}{dep:Nat}{c:List Item}{l:List (Nat × AV)}{H:aa}{Q:AV->aa->Prop}(h : ∀g,Goes E fn rd dep (Qv c) (PW g l) H Q):ZI E fn rd dep c l H Q:=by
 refine⟨λg=>?_⟩;have:=h g;unfold Qv at this;split at this;·exact Tn this
 exact this
def oi(x:AV):Option (Option Int):=match intOf x with
 | some n=>some (some n)
 | none=>none
end
section
def TP(pc c:FuncId->List AV->Option AV):Prop :=∀f xs y,pc f xs=some y->c f xs=some y
def Xq(tc c:uE->List AV->aa->cp):Prop :=∀f xs H y,tc f xs H=some y->c f xs H=some y
def PK{E:Env}{pc c:FuncId->List AV->Option AV}(hp:TP pc c){g:cF}{r:Ref}{f:Option AV}{args:List AV}{z:AV × List aQ}(h:kW E pc g r f args=some z):kW E c g r f args=some z:=by
 unfold kW at h ⊢;split at h
 ·split at h;·cases h
  rename_i e;rw[if_neg e];split at h
  ·rename_i xs i;split at h;·rename_i y d;rw[hp _ _ _ d];exact h
   cases h
  cases h
 cases h
def VD{E:Env}{pc d:FuncId->List AV->Option AV}{tc g:uE->List AV->aa->cp}(hp:TP pc d)(i:Xq tc g){H:aa}{r:Ref}{f:Option AV}{args:List AV} :
 (kW E pc H.get r f args=none ->∀z,nH E pc tc H r f args=some z->nH E d g H r f args=some z/\kW E d H.get r f args=none):=by
 intro c z h;unfold kW at c ⊢;unfold nH at h ⊢;split at h
 ·rename_i fi first captured
  dsimp only at c ⊢;split at h;·rename_i e;rw[if_pos e,if_pos e];exact⟨i _ _ _ _ h,rfl⟩
  rename_i e;rw[if_neg e]at c;rw[if_neg e,if_neg e];split at h
  ·rename_i xs l;try rw[l]at c
   dsimp only at c ⊢;simp only[bG]at h;obtain⟨y,j,h⟩:=h;rw[j]at c;rw[hp _ _ _ j];exact⟨by rw[Option.map_some,h],c⟩
  cases h
 ·exact⟨i _ _ _ _ h,rfl⟩
 cases h
def N7{E:Env}{pc d:FuncId->List AV->Option AV}{tc i:uE->List AV->aa->cp}(hp:TP pc d)(K:Xq tc i){dep:Nat}{u:Bool}{tm:List AV}{H:aa}{o:Oper}{z:AV × aa}
 (h:o4 E pc tc dep u tm H o=some z):o4 E d i dep u tm H o=some z:=by
 by_cases w : ∃c f args,o.op = .call c/\c.args.toList.mapM (aC tm)=some args/\c.callee = .value f
 ·obtain⟨c,f,args,m,v,q⟩:=w;unfold o4 cr evalW at h ⊢;simp only[m,v,q]at h ⊢;cases j:FG E.uI u f with
  | some t=>
   rw[j]at h;dsimp only at h ⊢;cases G:MW E.P H.get t args with
   | some p=>rw[G]at h;exact h
   | none=>
    rw[G]at h;dsimp only at h ⊢;split at h;·cases h
    rename_i F;rw[if_neg F];have A : ∃g,f = .func g:=by unfold FG at j;split at j<;>simp_all
    obtain⟨g,rfl⟩:=A;simp only[aC,nH]at h ⊢;by_cases I:E.mode g=2
    ·rw[if_pos I]at h ⊢;cases l:tc (.fn g) ([]++args++[]) H with
     | none=>rw[l]at h;unfold qQ at h;split at h<;>(try split at h)<;>simp_all
     | some L=>rw[l]at h;rw[K _ _ _ _ l];exact h
    rw[if_neg I]at h ⊢;cases J:([]++args++[]:List AV).mapM (view H.get depth) with
    | none=>rw[J]at h;exact h
    | some xs=>
     rw[J]at h;dsimp only at h ⊢;cases B:pc g xs with
     | none=>rw[B]at h;unfold qQ at h;split at h<;>(try split at h)<;>simp_all
     | some y=>rw[B]at h;rw[hp _ _ _ B];exact h
  | none=>
  rw[j]at h;dsimp only at h ⊢;cases n:kW E pc H.get ⟨dep,o.dst.getD 0,H.gen dep (o.dst.getD 0),0⟩ (aC tm f) args with
  | some p=>rw[n]at h;rw[PK hp n];exact h
  | none=>
   rw[n]at h;simp only[AS]at h;split at h;·cases h
   rename_i F;cases l:nH E pc tc H ⟨dep,o.dst.getD 0,H.gen dep (o.dst.getD 0),0⟩ (aC tm f) args with
   | none=>
    rw[l]at h;unfold qQ at h;split at h;·rename_i e;cases e
    cases h
   | some L=>obtain⟨M,N⟩:=VD hp K n _ l;rw[N,M];rw[l]at h;simp only[AS,if_neg F];exact h
 have:o4 E pc tc dep u tm H o=o4 E d i dep u tm H o:=by
  have n:cr E pc u H.get tm ⟨dep,o.dst.getD 0,H.gen dep (o.dst.getD 0),0⟩ o=cr E d u H.get tm ⟨dep,o.dst.getD 0,H.gen dep (o.dst.getD 0),0⟩ o:=by
   cases m:o.op<;>simp only[cr,m];case makeMap a b=>cases b<;>rfl
   rename_i c;cases v:c.args.toList.mapM (aC tm) with
   | none=>rfl
   | some args=>
    cases q:c.callee with| value f=>exact(w ⟨c,f,args,m,v,q⟩).elim| invoke _ _=>rfl| builtin b=>rfl
  have l:evalW E pc tc H tm ⟨dep,o.dst.getD 0,H.gen dep (o.dst.getD 0),0⟩ o=evalW E d i H tm ⟨dep,o.dst.getD 0,H.gen dep (o.dst.getD 0),0⟩ o:=by
   cases m:o.op<;>simp only[evalW,m];rename_i c;cases v:c.args.toList.mapM (aC tm) with| none=>rfl| some args=>
    cases q:c.callee with
    | value f=>exact(w ⟨c,f,args,m,v,q⟩).elim
    | invoke _ _=>rfl
    | builtin b=>rfl
  unfold o4;rw[n,l]
 rw[<-this];exact h
def Qn{E:Env}{pc d:FuncId->List AV->Option AV}{tc c:uE->List AV->aa->cp}(hp:TP pc d)(f:Xq tc c){dep:Nat}{u:Bool}{tm:List AV}{H:aa}{o:Oper}{z:AV × aa}
 (h:yP E pc tc dep u tm H o=some z):yP E d c dep u tm H o=some z:=by
 unfold yP at h ⊢;cases e:Oe E u H tm ⟨dep,o.dst.getD 0,H.gen dep (o.dst.getD 0),0⟩ o with
 | some w=>rw[e]at h;exact h
 | none=>rw[e]at h;exact N7 hp f h
def MH{E:Env}{pc f:FuncId->List AV->Option AV}{tc e:uE->List AV->aa->cp}(hp:TP pc f)(j:Xq tc e){nt dep:Nat}{u:Bool}{ops:Array Oper} : ∀ {l:List Oper} {st d:St},
 nW E pc tc nt dep u ops l st=some d->nW E f e nt dep u ops l st=some d:=by
 intro l;induction l with
 | nil=>intro st d h;exact h
 | cons o l m=>
  intro st d h;unfold nW at h ⊢;cases c:Ar E pc tc nt dep u ops o st with
  | none=>rw[c]at h;cases h
  | some i=>
   rw[c]at h;have:Ar E f e nt dep u ops o st=some i:=by
    rw[LC]at c ⊢;cases hw:wanted ops st.tm o with
    | none=>rw[hw]at c;cases c
    | some b=>
     rw[hw]at c;cases b with
     | false=>exact c
     | true=>
      dsimp only at c ⊢;cases g:yP E pc tc dep u st.tm st.hp o with
      | none=>rw[g]at c;cases c
      | some z=>rw[g]at c;rw[Qn hp j g];exact c
   rw[this];exact m h
def FU{E:Env}{run e:Option Ref->Nat->Nat->List Item->St->Option St}(m : ∀rd nt dep d st g,run rd nt dep d st=some g->e rd nt dep d st=some g){dep:Nat}{f:FuncId}{args:List AV}{H:aa}{z:AV × aa}
 (h:vZ E run dep f args H=some z):vZ E e dep f args H=some z:=by
 unfold vZ at h ⊢;split at h
 ·rename_i p;rw[if_pos p];cases j:E.P.funcs[f]? with
  | none=>rw[j]at h;cases h
  | some fn=>
   rw[j]at h;dsimp only at h ⊢;cases l:fn.body with
   | none=>rw[l]at h;cases h
   | some c=>
    rw[l]at h;dsimp only at h ⊢;split at h
    ·rename_i n;rw[if_pos n];cases i:run none fn.ntmps dep [.code c] ⟨args,H⟩ with
     | none=>rw[i]at h;cases h
     | some st=>rw[i]at h;rw[m _ _ _ _ _ _ i];exact h
    cases h
 cases h
def Cg{E:Env}{run d:Option Ref->Nat->Nat->List Item->St->Option St}(j : ∀rd nt dep c st e,run rd nt dep c st=some e->d rd nt dep c st=some e):TP (cV E run) (cV E d):=by
 intro f xs y h;unfold cV at h ⊢;cases i:E.spec f xs with
 | some s=>rw[i]at h;exact h
 | none=>
  rw[i]at h;dsimp only at h ⊢;cases g:vZ E run 0 f xs [] with
  | none=>rw[g]at h;cases h
  | some z=>rw[g]at h;rw[FU j g];exact h
def Dk{E:Env}{run d:Option Ref->Nat->Nat->List Item->St->Option St}(j : ∀rd nt dep c st e,run rd nt dep c st=some e->d rd nt dep c st=some e)(dep:Nat):Xq (eM E run dep) (eM E d dep):=by
 intro f xs H y h;unfold eM at h ⊢;cases f with
 | fn f=>
  dsimp only at h ⊢;cases i:E.thrSpec f xs H with
  | some s=>rw[i]at h;exact h
  | none=>
  rw[i]at h;dsimp only at h ⊢;split at h;·rename_i m;rw[if_pos m];exact FU j h
  cases h
 | yld r=>
  dsimp only at h ⊢;unfold BJ at h ⊢;split at h
  ·rename_i f nt ps assign body tm n;split at h
   ·rename_i l;rw[if_pos l];cases g:run (some r) nt (dep+1) [.code assign,.beginRound,.code body] ⟨xI tm ps xs,H⟩ with
    | none=>rw[g]at h;cases h
    | some st=>rw[g]at h;rw[j _ _ _ _ _ _ g];exact h
   cases h
  cases h
def SD{E:Env} : ∀(n:Nat)(rd:Option Ref)(nt dep:Nat)(d:List Item)(st f:St),bZ E n rd nt dep d st=some f->bZ E (n+1) rd nt dep d st=some f:=by
 intro n;induction n with
 | zero=>intro rd nt dep d st f h;simp[bZ]at h
 | succ n e=>
  intro rd nt dep d st f h;unfold bZ at h ⊢;split at h;·exact h
  ·split at h;·exact h
   rename_i r;split at h;·exact e _ _ _ _ _ _ h
   cases h
  ·split at h;all_goals try exact h
   all_goals try exact e _ _ _ _ _ _ h
   ·rename_i c a b;split at h;·exact e _ _ _ _ _ _ h
    ·exact e _ _ _ _ _ _ h
    cases h
   ·split at h;·exact e _ _ _ _ _ _ h
    exact h
   ·rename_i ops u;cases g:nW E (cV E (bZ E n)) (eM E (bZ E n) dep) nt dep u ops ops.toList st with
    | none=>rw[g]at h;cases h
    | some j=>
     rw[g]at h;rw[MH (Cg e) (Dk e dep) g];dsimp only at h ⊢;split at h;·cases h
     rename_i i;rw[if_neg i];exact e _ _ _ _ _ _ h
   split at h
   ·split at h
    ·rename_i x H' g;rw[Dk e dep _ _ _ _ g];dsimp only;split at h;·exact e _ _ _ _ _ _ h
     ·exact h
     ·split at h;·exact e _ _ _ _ _ _ h
      cases h
     cases h
    cases h
   cases h
  all_goals try exact e _ _ _ _ _ _ h
  all_goals cases h
def Ym{E:Env}{n m:Nat}(e:n<=m){rd:Option Ref}{nt dep:Nat}{c:List Item}{st d:St}(h:bZ E n rd nt dep c st=some d):bZ E m rd nt dep c st=some d:=by
 induction e with| refl=>exact h| step _ f=>exact SD _ _ _ _ _ _ _ f
def FI{E:Env}{n:Nat}{f:FuncId}{args:List AV}{y:AV}(h:cV E (bZ E n) f args=some y):ax E f args=some y:=
 BO.2 ⟨n,λ_ c=>Cg (λ_ _ _ _ _ _ h=>Ym c h) _ _ _ h⟩
end
section
abbrev aI(n:Int):AV := .v (.int .i64 n)
abbrev aB(b:Bool):AV := .v (.bool b)
def a8(n:UInt8):AV := .v (.int .u8 (n.toNat:Int))
def af(n:UInt32):AV := .v (.int .u32 (n.toNat:Int))
abbrev aS(s:ByteArray):AV := .v (.string s)
abbrev bI:AV := .v (.slice none 0 0)
def tL{w:cp}{K:AV->aa->Prop}{m:Mk K}{v:AV}{H:aa}(c:w=some (v,H))(h:K v H):lE w K m:=⟨v,H,c,h⟩
@[simp] def ag5(v:AV)(K:AV->Prop)(m:Mk K):jU (some (v,[])) K m↔K v:=
 ⟨λ⟨⟨w,hw,h⟩⟩=>by cases hw;exact h,λh=>⟨v,rfl,h⟩⟩
@[simp] def ajA(c:Prop)[Decidable c](q:jk)(K:AV->Prop)(m:Mk K):jU (if c then q else none) K m↔c/\jU q K m:=by
 by_cases d:c;·simp[d]
 simp only[if_neg d,d,iQu,iff_false];rintro⟨v,e,_⟩;cases e
@[simp] def ag4(v:AV)(H:aa)(K:AV->aa->Prop)(m:Mk K):lE (some (v,H)) K m↔K v H:=
 ⟨λ⟨⟨w,_,hw,h⟩⟩=>by cases hw;exact h,λh=>⟨v,H,rfl,h⟩⟩
@[simp] def ajz(c:Prop)[Decidable c](q:cp)(K:AV->aa->Prop)(m:Mk K):lE (if c then q else none) K m↔c/\lE q K m:=by
 by_cases d:c;·simp[d]
 simp only[if_neg d,d,iQu,iff_false];rintro⟨v,_,e,_⟩;cases e
def RI{x:Option AV}{A B:Prop}{m:Mk (A,B)}:br x A B m↔brP x A B:=⟨λh=>h.h,λh=>⟨h⟩⟩
@[simp] def aiU(A B:Prop)(m:Mk (A,B)):br (some (aB true)) A B m↔A:=RI
@[simp] def ag9(A B:Prop)(m:Mk (A,B)):br (some (aB false)) A B m↔B:=RI
def ji{b:Bool}{A B:Prop}{m:Mk (A,B)}(c:b=true->A)(d:b=false->B):br (some (aB b)) A B m:=by
 cases b;·exact⟨d rfl⟩
 exact⟨c rfl⟩
def acN{p:Prop}[Decidable p]{A B:Prop}{m:Mk (A,B)}(c:p->A)(d : ¬p->B):br (some (aB (decide p))) A B m:=
 ji (λh=>c (iQA h)) (λh=>d (of_decide_eq_false h))
@[simp] def agE(q:jk)(K:AV->Prop)(m:Mk (q,K)):gQ (aB true) true q K m↔jU q K:=⟨λh=>h.h,λh=>⟨h⟩⟩
@[simp] def agH(q:jk)(K:AV->Prop)(m:Mk (q,K)):gQ (aB false) false q K m↔jU q K:=⟨λh=>h.h,λh=>⟨h⟩⟩
@[simp] def agF(q:jk)(K:AV->Prop)(m:Mk (q,K)):gQ (aB true) false q K m↔K AV.undef:=⟨λh=>h.h,λh=>⟨h⟩⟩
@[simp] def agG(q:jk)(K:AV->Prop)(m:Mk (q,K)):gQ (aB false) true q K m↔K AV.undef:=⟨λh=>h.h,λh=>⟨h⟩⟩
@[simp] def akk(w:Bool)(q:jk)(K:AV->Prop)(m:Mk (q,K)):gQ AV.undef w q K m↔K AV.undef:=⟨λh=>h.h,λh=>⟨h⟩⟩
@[simp] def agA(H:aa)(q:cp)(K:AV->aa->Prop)(m:Mk (q,K)):gW (aB true) true H q K m↔lE q K:=⟨λh=>h.h,λh=>⟨h⟩⟩
@[simp] def agD(H:aa)(q:cp)(K:AV->aa->Prop)(m:Mk (q,K)):gW (aB false) false H q K m↔lE q K:=⟨λh=>h.h,λh=>⟨h⟩⟩
@[simp] def agB(H:aa)(q:cp)(K:AV->aa->Prop)(m:Mk (q,K)):gW (aB true) false H q K m↔K AV.undef H:=⟨λh=>h.h,λh=>⟨h⟩⟩
@[simp] def agC(H:aa)(q:cp)(K:AV->aa->Prop)(m:Mk (q,K)):gW (aB false) true H q K m↔K AV.undef H:=⟨λh=>h.h,λh=>⟨h⟩⟩
@[simp] def akj(w:Bool)(H:aa)(q:cp)(K:AV->aa->Prop)(m:Mk (q,K)):gW AV.undef w H q K m↔K AV.undef H:=⟨λh=>h.h,λh=>⟨h⟩⟩
@[simp] def adE(v:AV):kC (some v)=some (v,[]):=id rfl
@[simp] def ad0(H:aa)(r:Ref)(v:AV)(c:List aQ):mE H r (some (v,c))=some (v,keyed r 0 c H):=id rfl
@[simp] def EV(H:aa)(r:Ref):mE H r none=none:=id rfl
@[simp] def abX(r:Ref)(k:Nat)(H:aa):keyed r k [] H=H:=id rfl
@[simp] def abY(r:Ref)(k:Nat)(b:aQ)(c:List aQ)(H:aa):keyed r k (b :: c) H=keyed r (k+1) c (({ r with k:=k},some b) :: H):=id rfl
@[simp] def af3(c:Bool)(x:AV × aa)(b:cp):Gb c (some x) b=some x:=id rfl
@[simp] def Ib(b:cp):Gb true none b=b:=id rfl
@[simp] def abK(a b:Option AV):Ba (some (aB true)) a b=kC a:=id rfl
@[simp] def aab(a b:Option AV):Ba (some (aB false)) a b=kC b:=id rfl
@[simp] def ajo(k:IntKind)(n:Int):oi (.v (.int k n))=some (some n):=id rfl
@[simp] def aeA(cs:List AV):(AV.agg cs).cells=cs:=id rfl
@[simp] def aiO(x:Value):(AV.v x).cells=[.v x]:=id rfl
@[simp] def aiP(x:UInt8):(a8 x).cells=[a8 x]:=id rfl
@[simp] def ag7(x:UInt32):(af x).cells=[af x]:=id rfl
@[simp] def aez(z:Nat)(es:List AV)(c:Option Nat):(AV.cC z es c).cells=[.cC z es c]:=id rfl
@[simp] def aey(r:Ref)(o n:Nat)(c:Option Nat):(AV.bN r o n c).cells=[.bN r o n c]:=id rfl
@[simp] def aex(r:Ref)(i j:Nat):(AV.ptr r i j).cells=[.ptr r i j]:=id rfl
@[simp] def ag6(f:Fn)(a b:List AV):(AV.fn f a b).cells=[.fn f a b]:=id rfl
@[simp] def aii(k:IntKind)(n:Int):(AV.v (.int k n)).one=true:=id rfl
@[simp] def af4(b:Bool):(AV.v (.bool b)).one=true:=id rfl
@[simp] def aif:bI.one=true:=id rfl
@[simp] def ajT(x:UInt8):(a8 x).one=true:=id rfl
@[simp] def ajn(x:UInt32):(af x).one=true:=id rfl
@[simp] def aih(z:Nat)(es:List AV)(c:Option Nat):(AV.cC z es c).one=true:=id rfl
@[simp] def aie(r:Ref)(o n:Nat)(c:Option Nat):(AV.bN r o n c).one=true:=id rfl
@[simp] def aid(r:Ref)(i j:Nat):(AV.ptr r i j).one=true:=id rfl
@[simp] def ajm(f:Fn)(a b:List AV):(AV.fn f a b).one=true:=id rfl
section
variable(P:Program)(t:TypeId)(D C:Operand)(k:IntKind)(a b:Int)
@[simp] theorem M6:bP P .lss t D C (some (.v (.int k a))) (some (.v (.int k b)))=some (aB (decide (a<b)),[]):=by cases k<;>rfl
@[simp] theorem VH:bP P .leq t D C (some (.v (.int k a))) (some (.v (.int k b)))=some (aB (decide (a<=b)),[]):=by cases k<;>rfl
@[simp] theorem VI:bP P .gtr t D C (some (.v (.int k a))) (some (.v (.int k b)))=some (aB (decide (b<a)),[]):=by cases k<;>rfl
@[simp] theorem VJ:bP P .geq t D C (some (.v (.int k a))) (some (.v (.int k b)))=some (aB (decide (b<=a)),[]):=by cases k<;>rfl
@[simp] theorem M7:bP P .eql t D C (some (.v (.int k a))) (some (.v (.int k b)))=some (aB (decide (a=b)),[]):=by
 have:(a == b)=decide (a=b):=by by_cases h:a=b<;>simp[h]
 rw[<-this];cases k<;>rfl
@[simp] theorem VG:bP P .neq t D C (some (.v (.int k a))) (some (.v (.int k b)))=some (aB (!decide (a=b)),[]):=by
 have:(a != b) = !decide (a=b):=by by_cases h:a=b<;>simp[h]
 rw[<-this];cases k<;>rfl
@[simp] theorem afX:bP P .add t D C (some (.v (.int k a))) (some (.v (.int k b)))=some (.v (.int k (k.wrap (a+b))),[]):=by cases k<;>rfl
@[simp] theorem afV:bP P .sub t D C (some (.v (.int k a))) (some (.v (.int k b)))=some (.v (.int k (k.wrap (a - b))),[]):=by cases k<;>rfl
@[simp] theorem afW:bP P .mul t D C (some (.v (.int k a))) (some (.v (.int k b)))=some (.v (.int k (k.wrap (a * b))),[]):=by cases k<;>rfl
theorem VF(d:b≠0):bP P .rem t D C (some (.v (.int k a))) (some (.v (.int k b)))=some (.v (.int k (a.tmod b)),[]):=by
 have h:Op.intDiv .rem k a b=pure (.int k (a.tmod b)):=by unfold Op.intDiv;rw[if_neg d]
 have c:Dy P .rem t D C (.int k a) (.int k b)=some (.int k (a.tmod b)):=by
  have:Dy P .rem t D C (.int k a) (.int k b)=aY P (Op.intDiv .rem k a b):=by cases k<;>rfl
  rw[this,h];rfl
 simp only[bP,Lx,oR,im,c,yc,GI,mJ,iQf,eJ,kD,scalar,if_true,kC,Option.map_some]
theorem gG{c:IntKind}(e:0<=b):bP P .shr t D C (some (.v (.int k a))) (some (.v (.int c b)))=some (.v (.int k (a.fdiv (2 ^ min b.toNat k.bits))),[]):=by
 have h:Op.shift .shr k a c b=pure (.int k (a.fdiv (2 ^ min b.toNat k.bits))):=by unfold Op.shift;rw[if_neg (by omega)]
 have d:Dy P .shr t D C (.int k a) (.int c b)=some (.int k (a.fdiv (2 ^ min b.toNat k.bits))):=by
  have:Dy P .shr t D C (.int k a) (.int c b)=aY P (Op.shift .shr k a c b):=rfl;rw[this,h];rfl
 simp only[bP,Lx,oR,im,d,yc,GI,mJ,iQf,eJ,kD,scalar,if_true,kC,Option.map_some]
@[simp] theorem ah8(b:Bool):Z9 P .not (some (aB b))=some (aB (!b),[]):=id rfl
def u8(n:Int):UInt8:=UInt8.ofBitVec (BitVec.ofInt 8 n)
def u32(n:Int):UInt32:=UInt32.ofBitVec (BitVec.ofInt 32 n)
@[simp] theorem aeF(n:Int):IntKind.u8.wrap n=((u8 n).toNat:Int):=by
 unfold u8;rw[IntKind.wrap_u8,iQR,GR];omega
@[simp] theorem XK(n:Int):IntKind.u32.wrap n=((u32 n).toNat:Int):=by
 unfold u32;rw[IntKind.wrap_u32,iQK,GR];omega
theorem JP(n:Int):(u8 n).toNat=(n % 256).toNat:=by
 unfold u8;rw[iQR,GR];rfl
theorem Ho(n:Int):(u32 n).toNat=(n % 4294967296).toNat:=by
 unfold u32;rw[iQK,GR];rfl
@[simp] theorem XU(x:UInt32):u32 (x.toNat:Int)=x:=by apply GQ.1;rw[Ho];have:=x.toNat_lt;omega
@[simp] theorem aeL(x:UInt32):u8 (x.toNat:Int)=x.toUInt8:=by apply C0.1;rw[JP,UInt32.toNat_toUInt8];omega
@[simp] theorem agz(x:UInt8):IntKind.i64.wrap (x.toNat:Int)=x.toNat:=by have:=x.toNat_lt;exact iQa _ (by omega)
@[simp] theorem aci(x:UInt32):IntKind.i64.wrap (x.toNat:Int)=x.toNat:=by have:=x.toNat_lt;exact iQa _ (by omega)
theorem acQ(v:BitVec 32):IntKind.u32.wrap (v.toNat:Int)=((UInt32.ofBitVec v).toNat:Int):=by
 rw[XK];unfold u32;congr 3;apply BitVec.eq_of_toNat_eq;rw[GR];have:=v.isLt;omega
theorem acO(d:BinOp)(f:BitVec 32->BitVec 32->BitVec 32)(g:UInt32->UInt32->UInt32)(e : ∀x y,g x y=UInt32.ofBitVec (f x.toBitVec y.toBitVec))(c : ∀x y:Int,bP P d t D C (some (.v (.int .u32 x))) (some (.v (.int .u32 y)))=some (.v (.int .u32 (IntKind.u32.wrap ((f (BitVec.ofInt 32 x) (BitVec.ofInt 32 y)).toNat:Int))),[])) :
 bP P d t D C (some (.v (.int .u32 a))) (some (.v (.int .u32 b)))=some (af (g (u32 a) (u32 b)),[]):=by
 rw[c,acQ,e];rfl
section
variable(x y:UInt8)
@[simp] theorem adK:bP P .lss t D C (some (a8 x)) (some (a8 y))=some (aB (decide (x<y)),[]):=by
 unfold a8;rw[M6];congr 4;rw[OZ];all_goals exact propext (by omega)
@[simp] theorem adL:bP P .leq t D C (some (a8 x)) (some (a8 y))=some (aB (decide (x<=y)),[]):=by
 unfold a8;rw[VH];congr 4;rw[iQL];all_goals exact propext (by omega)
@[simp] theorem adM:bP P .gtr t D C (some (a8 x)) (some (a8 y))=some (aB (decide (y<x)),[]):=by
 unfold a8;rw[VI];congr 4;rw[OZ];all_goals exact propext (by omega)
@[simp] theorem adN:bP P .geq t D C (some (a8 x)) (some (a8 y))=some (aB (decide (y<=x)),[]):=by
 unfold a8;rw[VJ];congr 4;rw[iQL];all_goals exact propext (by omega)
@[simp] theorem adO:bP P .eql t D C (some (a8 x)) (some (a8 y))=some (aB (decide (x=y)),[]):=by
 unfold a8;rw[M7];congr 4;rw[<-C0];all_goals exact propext (by omega)
@[simp] theorem adJ:bP P .neq t D C (some (a8 x)) (some (a8 y))=some (aB (!decide (x=y)),[]):=by
 unfold a8;rw[VG];congr 5;rw[<-C0];all_goals exact propext (by omega)
end
section
variable(x y:UInt32)
@[simp] theorem XE:bP P .andNot t D C (some (af x)) (some (af y))=some (af (x &&& ~~~y),[]):=by
 unfold af;rw[acO P t D C _ _ .andNot (λa b=>a &&& ~~~b) (λa b=>a &&& ~~~b) (λ_ _=>rfl) (λ_ _=>rfl)];simp only[XU];rfl
@[simp] theorem abC:bP P .lss t D C (some (af x)) (some (af y))=some (aB (decide (x<y)),[]):=by
 unfold af;rw[M6];congr 4;rw[iQI];all_goals exact propext (by omega)
@[simp] theorem abD:bP P .eql t D C (some (af x)) (some (af y))=some (aB (decide (x=y)),[]):=by
 unfold af;rw[M7];congr 4;rw[<-GQ];all_goals exact propext (by omega)
end
@[simp] theorem abA{e:IntKind}(x:UInt32)(d:0<=b/\b<32):bP P .shr t D C (some (af x)) (some (.v (.int e b)))=some (af (x >>> UInt32.ofNat b.toNat),[]):=by
 unfold af;rw[gG P t D C .u32 _ b d.1];congr 5;have f:min b.toNat IntKind.u32.bits=b.toNat:=by show min b.toNat 32=_;omega
 rw[f,iQF,iQU,iQB];have c:b.toNat % 2 ^ 32 % 32=b.toNat:=by omega
 rw[c,iQy _ (by exact Int.pow_nonneg (by decide))];push_cast;rfl
theorem nk{P:Program}{t:TypeId}{d:TypeDesc}(h:P.underlying t=some d):aY P (Go.underlying t)=some d:=by
 unfold Go.underlying;rw[bH];show(some P).bind _=_;rw[eJ,h];rfl
def intKind(P:Program)(t:TypeId):Option IntKind:=match P.underlying t with | some (.int k)=>some k | _=>none
theorem DT{P:Program}{t:TypeId}{k:IntKind}(h:intKind P t=some k):P.underlying t=some (.int k):=by
 unfold intKind at h;split at h;·cases h;assumption
 cases h
theorem yI{g:cF}{r:Ref}{c e:TypeId}{k':IntKind}(f:(P.underlying c).isNone=false)(i:intKind P e=some k)(n:Int) :
 eE P g r c e (some (.v (.int k' n)))=some (.v (.int k (k.wrap n)),[]):=by
 have i:=DT i;obtain⟨d,f⟩ : ∃d,P.underlying c=some d:=by cases h:P.underlying c with | none=>rw[h]at f;cases f | some d=>exact⟨d,rfl⟩
 have:aY P (Go.convert c e (.int k' n))=some (.int k (k.wrap n)):=by
  unfold Go.convert;rw[bH,nk f,eJ,bH,nk i,eJ];cases d<;>rfl
 simp only[eE,this,eJ,kD,scalar,if_true,kC,Option.map_some]
@[simp] theorem adI{g:cF}{r:Ref}{c d:TypeId}(e:(P.underlying c).isNone=false)(f:intKind P d=some .i64)(x:UInt8) :
 eE P g r c d (some (a8 x))=some (aI x.toNat,[]):=by
 unfold a8;rw[yI P .i64 e f,agz]
@[simp] theorem aby{g:cF}{r:Ref}{c d:TypeId}(e:(P.underlying c).isNone=false)(f:intKind P d=some .i64)(x:UInt32) :
 eE P g r c d (some (af x))=some (aI x.toNat,[]):=by
 unfold af;rw[yI P .i64 e f,aci]
@[simp] theorem adH{g:cF}{r:Ref}{c d:TypeId}{k':IntKind}(e:(P.underlying c).isNone=false)(f:intKind P d=some .u8)(n:Int) :
 eE P g r c d (some (.v (.int k' n)))=some (a8 (u8 n),[]):=by
 unfold a8;rw[yI P .u8 e f,aeF]
@[simp] theorem adG{g:cF}{r:Ref}{c d:TypeId}{k':IntKind}(e:(P.underlying c).isNone=false)(f:intKind P d=some .i64)(n:Int) :
 eE P g r c d (some (.v (.int k' n)))=some (aI (IntKind.i64.wrap n),[]):=yI P .i64 e f n
end
def jX(l:List UInt8):List AV:=l.map a8
@[simp] def aiR(l:List UInt8):(jX l).length=l.length:=by simp[jX]
@[simp] def aiQ:jX []=[]:=id rfl
def VA(P:Program)(d:Bool)(g:cF)(r:Ref)(t:TypeId)(c:List TypeId)(x:AV)(e : ∀r',x ≠ .mp r'):cP P d g r .len ⟨t :: c⟩ [x]=Jr P (some t) x:=by
 unfold cP;cases x<;>first | rfl | (rename_i q;exact(e q rfl).elim)
@[simp] def ah9(P:Program)(d:Bool)(g:cF)(r:Ref)(t:TypeId)(c:List TypeId)(x:AV)(f:(og x).isSome=true):cP P d g r .len ⟨t :: c⟩ [x]=Jr P (some t) x:=by
 refine VA P d g r t c x λr' e=>?_;subst e;cases f
@[simp] def ad2:og bI=some 0:=id rfl
@[simp] def ad3(n:Nat)(es:List AV)(c:Option Nat):og (.cC n es c)=some es.length:=id rfl
@[simp] def ad1(r:Ref)(o n:Nat)(c:Option Nat):og (.bN r o n c)=some n:=id rfl
@[simp] def abv{P:Program}{t:TypeId}(d:lQ P t=none)(c:isStr P t=false)(e:(dR P t).isSome=true)(x:AV):Jr P (some t) x=(og x).map λn=>(aI n,[]):=by
 simp only[Jr,d,c,e];rfl
def N8{P:Program}{t:TypeId}{z:Nat}(h:(dR P t).bind (aA P)=some z) : ∃e,dR P t=some e/\aA P e=some z:=by
 simpa [ib] using h
@[simp] def HW{P:Program}{t:TypeId}{z:Nat}(h:(dR P t).bind (aA P)=some z)(g:cF)(es:List AV)(c:Option Nat)(d:IntKind)(k:Int) :
 da P g t (some (.cC z es c)) (some (.v (.int d k)))=if 0<=k/\k<es.length then some (.iptr z es k.toNat 0,[]) else none:=by
 obtain⟨e,he,f⟩:=N8 h;simp only[da,eJ,intOf,he,f,iQv]
@[simp] def abu{P:Program}{t:TypeId}(d:(dL P t).isSome=true)(c:(aA P t).isSome=true)(g:cF)(z:Nat)(es:List AV)(i j:Nat) :
 uh P g t (some (.iptr z es i j))=kC (bL es i j ((aA P t).getD 0) ((dL P t).getD false)):=by
 obtain⟨a,d⟩:=ik.1 d;obtain⟨n,c⟩:=ik.1 c;simp only[uh,d,c,cI]
def Wo(x:Option aQ)(i j n:Nat)(c:Bool):jk:=match x with
 | some b=>kC (bL b.es i j n c)
 | none=>none
@[simp] def abT(b:aQ)(i j n:Nat)(c:Bool):Wo (some b) i j n c=kC (bL b.es i j n c):=id rfl
@[simp] def adF{P:Program}{t:TypeId}(d:(dL P t).isSome=true)(c:(aA P t).isSome=true)(g:cF)(r:Ref)(i j:Nat) :
 uh P g t (some (.ptr r i j))=Wo (g r) i j ((aA P t).getD 0) ((dL P t).getD false):=by
 obtain⟨a,d⟩:=ik.1 d;obtain⟨n,c⟩:=ik.1 c;simp only[uh,d,c,cI];rfl
def HS{es:List AV}{i j n:Nat}{e x:AV}(h:es[i]?=some e)(c:e.cells[j]?=some x):bL es i j n false=some x:=by
 simp only[bL,h,c];rfl
def PC{es:List AV}{i j n:Nat}{e:AV}(h:es[i]?=some e)(c:j+n<=e.cells.length/\0<n):bL es i j n true=some (.agg ((e.cells.drop j).take n)):=by
 simp only[bL,h,if_true,if_pos c]
@[simp] def TY(e:AV)(es:List AV)(j n:Nat):bL (e :: es) 0 j n true=if j+n<=e.cells.length/\0<n then some (.agg ((e.cells.drop j).take n)) else none:=id rfl
@[simp] def TX(e:AV)(es:List AV)(j n:Nat):bL (e :: es) 0 j n false=e.cells[j]?:=id rfl
def Sl(z:Nat)(es:List AV)(x:AV):Prop:=(x=bI/\es=[]) \/∃c,x = .cC z es c/\es.length<=c.getD es.length
def Sl.mk(z:Nat)(es:List AV):Sl z es (.cC z es none) := .inr ⟨none,rfl,cH _⟩
def Sl.len{z:Nat}{es:List AV}{x:AV}(h:Sl z es x):og x=some es.length:=by
 rcases h with ⟨rfl,rfl⟩ | ⟨c,rfl,_⟩<;>rfl
def Sl.cC{z:Nat}{es:List AV}{x:AV}(h:Sl z es x){i:Nat}(d:i<es.length) : ∃c,x = .cC z es c/\es.length<=c.getD es.length:=by
 rcases h with ⟨rfl,rfl⟩ | h
 ·simp at d
 exact h
def Sl.view{z:Nat}{es:List AV}{x:AV}(h:Sl z es x)(g:cF)(n:Nat):view g (n+1) x=some x:=by
 rcases h with ⟨rfl,rfl⟩ | ⟨c,rfl,_⟩<;>rfl
def Sl.refs{z:Nat}{es:List AV}{x:AV}(h:Sl z es x)(g:cF)(n:Nat):ah g n x=[]:=by
 rcases h with ⟨rfl,rfl⟩ | ⟨c,rfl,_⟩<;>cases n<;>rfl
def Sl.imp{z:Nat}{es:List AV}{x:AV}(h:Sl z es x)(r:Ref)(n:Nat):aj r n x []=(x,[]):=by
 rcases h with ⟨rfl,rfl⟩ | ⟨c,rfl,_⟩<;>cases n<;>rfl
def Sl.cells{z:Nat}{es:List AV}{x:AV}(h:Sl z es x):x.cells=[x]/\x.one=true:=by
 rcases h with ⟨rfl,_⟩ | ⟨c,rfl,_⟩<;>exact⟨rfl,rfl⟩
@[simp] def aaX(g:cF)(n:Nat)(x:Value):view g (n+1) (.v x)=some (.v x):=id rfl
@[simp] def ai0(g:cF)(n:Nat)(x:UInt8):view g (n+1) (a8 x)=some (a8 x):=id rfl
@[simp] def ahq(g:cF)(n:Nat)(x:UInt32):view g (n+1) (af x)=some (af x):=id rfl
@[simp] def aeH(g:cF)(n z:Nat)(es:List AV)(c:Option Nat):view g (n+1) (.cC z es c)=some (.cC z es c):=id rfl
@[simp] def aeJ(g:cF)(n:Nat)(cs:List AV):view g (n+1) (.agg cs)=(cs.mapM (view g n)).map .agg:=id rfl
@[simp] def aeG(g:cF)(n:Nat)(cs:List AV):view g (n+1) (.tup cs)=(cs.mapM (view g n)).map .tup:=id rfl
@[simp] def ac1(g:cF)(n z:Nat)(es:List AV)(i j:Nat):view g (n+1) (.iptr z es i j)=some (.iptr z es i j):=id rfl
@[simp] def aeI(g:cF)(n:Nat)(t:TypeId)(x:AV):view g (n+1) (.ifc t x)=(view g n x).map (.ifc t):=id rfl
def G9{g:cF}{r:Ref}{b:aQ}(d:g r=some b)(n o l:Nat)(c:Option Nat):view g (n+1) (.bN r o l c)=if b.arr=true/\o+l<=b.es.length then some (.cC b.esz ((b.es.drop o).take l) c) else none:=by
 simp only[view,d]
def aJ:depth=8:=Nat.le_antisymm (cH 8) (cH 8)
end
section
@[simp] def aa.fh(r q:Ref)(b:Option aQ)(H:aa):aa.get ((r,b) :: H) q=if r=q then b else aa.get H q:=id rfl
@[simp] def aa.get_nil(q:Ref):aa.get [] q=none:=id rfl
attribute [simp] aa.get_put
@[simp] def aia(P:Program)(r:Ref)(e:TypeId)(x:AV)(c:0<(aA P e).getD 0):F9 P r e (some x)=if some x.cells.length=aA P e/\x.cells.all AV.one=true then some (.ptr r 0 0,[⟨(aA P e).getD 0,[x],false,false⟩]) else none:=by
 unfold F9;cases h:aA P e with
 | none=>simp
 | some n=>rw[h]at c;simp only[cI]at c;simp[c]
def Fr(H:aa):Prop :=∀d t g k,H.gen d t<=g->H.get ⟨d,t,g,k⟩=none
def Fr.nil:Fr []:=λ_ _ _ _ _=>rfl
def Fr.keyed{H:aa}(h:Fr H)(i:List aQ)(d t:Nat):Fr (Ab.keyed ⟨d,t,H.gen d t,0⟩ 0 i H):=by
 intro l t' g k c;rw[aa.mS]at c;rw[aa.BP];by_cases j:i=[];·subst j;rw[if_neg (by simp)]at c;simp[h _ _ _ _ c]
 by_cases f:l=d/\t'=t;·obtain⟨rfl,rfl⟩:=f;rw[if_pos ⟨rfl,rfl,j⟩]at c;dsimp only at c ⊢;rw[if_neg (by intro e;have:=e.2.2.1;omega)];exact h _ _ _ _ (by omega)
 rw[if_neg (by intro e;exact f ⟨e.1,e.2.1⟩)]at c;dsimp only at c ⊢;rw[if_neg (by intro e;exact f ⟨e.1,e.2.1⟩)];exact h _ _ _ _ c
def Fr.put{H:aa}(h:Fr H){r:Ref}(b:Option aQ)(c:(H.get r).isSome=true):Fr (H.put r b):=by
 intro d t g k f;rw[aa.jJ H r b c]at f;rw[aa.get_put];split;·rename_i e;subst e;rw[h _ _ _ _ f]at c;cases c
 exact h _ _ _ _ f
def Fr.cons{H:aa}(h:Fr H)(d t:Nat)(b:Option aQ):Fr ((⟨d,t,H.gen d t,0⟩,b) :: H):=by
 intro l t' g k c;simp only[aa.gen]at c;rw[aa.fh];split at c;·rename_i e;obtain⟨rfl,rfl⟩:=e;rw[if_neg (by intro e;injection e;omega)];exact h _ _ _ _ (by omega)
 rename_i e;rw[if_neg (by intro j;injection j with i f;exact e ⟨i,f⟩)];exact h _ _ _ _ c
def nB{H:aa}(c:Fr H){q:Ref}(h:(H.get q).isSome=true)(d t k:Nat):(⟨d,t,H.gen d t,k⟩:Ref)≠q:=by
 intro e;subst e;rw[c _ _ _ _ (cH _)]at h;cases h
def RB(P:Program)(t z by':Nat):Bool:=match dR P t with
 | some e=>aA P e == some z&&oM P e == some by'&&(match eX P e with | some c=>c.cells.length == z&&c.cells.all AV.one | none=>false)&&z != 0&&by' != 0
 | none=>false
def Ed(P:Program)(t:TypeId):Bool:=(P.underlying t).isSome && !isInt P t
def jh{P:Program}{t z by':Nat}(h:RB P t z by'=true) : ∃e c,dR P t=some e/\aA P e=some z/\oM P e=some by'/\eX P e=some c/\c.cells.length=z/\c.cells.all AV.one=true/\z≠0/\by'≠0:=by
 unfold RB at h;split at h
 ·rename_i e g;simp only[aT,iQl,bne_iff_ne]at h;obtain⟨⟨⟨⟨i,m⟩,d⟩,j⟩,f⟩:=h;split at d;·rename_i c l;simp only[aT,iQl]at d;exact⟨e,c,g,i,m,l,d.1,d.2,j,f⟩
  cases d
 cases h
def TU(g:cF)(z:Nat)(new:List AV)(x:AV):Prop:=(x=bI/\new=[])\/(isNum x=false/\x≠bI/\cL g x=some (z,new))
def TU.oe{P:Program}{t z by':Nat}(h:RB P t z by'=true){e:TypeId}(j:dR P t=some e){g:cF}{new:List AV}{x:AV}(d:TU g z new x):oe P g e x=some (z,new):=by
 obtain⟨p,q,f,l,w,A,n,v,B,m⟩:=jh h;rw[j]at f;cases f;rcases d with ⟨rfl,rfl⟩ | ⟨i,c,d⟩
 ·simp only[Ab.oe,l,Option.map_some]
 unfold Ab.oe;split;·exact(c rfl).elim
 ·simp[isNum]at i
 exact d
def TU.num{g:cF}{z:Nat}{new:List AV}{x:AV}(c:TU g z new x):isNum x=false:=by
 rcases c with ⟨rfl,_⟩ | ⟨d,_⟩
 ·rfl
 exact d
def Sl.Ja{z:Nat}{es:List AV}{x:AV}(h:Sl z es x)(g:cF):TU g z es x:=by
 rcases h with ⟨rfl,rfl⟩ | ⟨c,rfl,_⟩
 ·exact .inl ⟨rfl,rfl⟩
 exact .inr ⟨rfl,(by intro e;cases e),rfl⟩
def Own(z:Nat)(es:List AV)(H:aa)(x:AV):Prop:=(x=bI/\es=[]) \/∃r,x = .bN r 0 es.length none/\H.get r=some ⟨z,es,true,false⟩
def Lh(z:Nat)(H:aa):Own z [] H bI := .inl ⟨rfl,rfl⟩
def Own.len{z:Nat}{es:List AV}{H:aa}{x:AV}(h:Own z es H x):og x=some es.length:=by
 rcases h with ⟨rfl,rfl⟩ | ⟨r,rfl,_⟩<;>rfl
def Own.view{z:Nat}{es:List AV}{H:aa}{x:AV}(h:Own z es H x)(n:Nat) : ∃y,view H.get (n+1) x=some y/\Sl z es y:=by
 rcases h with ⟨rfl,rfl⟩ | ⟨r,rfl,c⟩
 ·exact⟨bI,rfl,.inl ⟨rfl,rfl⟩⟩
 refine⟨.cC z es none,?_,Sl.mk z es⟩;rw[G9 c];simp
def Own.Ja{z:Nat}{es:List AV}{H:aa}{x:AV}(h:Own z es H x):TU H.get z es x:=by
 rcases h with ⟨rfl,rfl⟩ | ⟨r,rfl,c⟩
 ·exact .inl ⟨rfl,rfl⟩
 refine .inr ⟨rfl,(by intro e;cases e),?_⟩;simp[cL,c]
def AV.at?:AV->Option Ref
 | .bN r _ _ _=>some r
 | .ptr r _ _=>some r
 | _=>none
def ZC{P:Program}{t t' z by':Nat}(R:RB P t z by'=true)(w:Ed P t'=true){H:aa}{r:Ref}{es new:List AV}{s x:AV}(X:Own z es H s)(K:TU H.get z new x)
 (O:(es.length+new.length) * by'<=bg) (l:Fr H) (Y : ∃d t,r=⟨d,t,H.gen d t,0⟩) :
 ∃N H',ga P true H r (some t) (some t') s x=some (N,H')/\Own z (es++new) H' N/\Fr H' /\∀q b,H.get q=some b->s.at?≠some q->H'.get q=some b/\N.at?≠some q:=by
 obtain⟨e,V,n,I,B,F,T,Z,W,S⟩:=jh R;have c:=K.oe R n;unfold Ed at w;simp only[aT,dI]at w;have M:(P.underlying t').isNone=false:=by cases h:P.underlying t' with | none=>rw[h]at w;simp at w | some d=>rfl
 have p : ¬((P.underlying t').isNone=true\/isInt P t'≠isNum x):=by
  rw[M,w.2,K.num];simp
 have J : ¬(z≠z\/z=0\/by'=0\/V.cells.length≠z):=by simp[T,W,S]
 obtain⟨j,tt,rfl⟩:=Y;rcases X with ⟨rfl,rfl⟩ | ⟨q,rfl,g⟩
 ·by_cases m:new=[];·subst m;refine⟨bI,H,?_,Lh z H,l,λq b g _=>⟨g,by simp[AV.at?]⟩⟩;simp only[ga,fu,eJ,n,Option.map_some,cI,if_neg p,I,B,F,c,if_neg J,if_true];rfl
  refine⟨.bN ⟨j,tt,H.gen j tt,0⟩ 0 new.length none,(⟨j,tt,H.gen j tt,0⟩,some ⟨z,new,true,false⟩) :: H,?_,.inr ⟨⟨j,tt,H.gen j tt,0⟩,by simp,by simp⟩,l.cons j tt _,λq b g _=>?_⟩;·simp only[CZ,uR]at O;simp only[ga,fu,eJ,n,Option.map_some,cI,if_neg p,I,B,F,c,if_neg J,if_neg m,if_pos O];rfl
  have f:=nB l (q:=q) (by rw[g];rfl) j tt 0;rw[aa.fh,if_neg f];exact⟨g,by intro e;simp only[AV.at?,dG]at e;exact f e⟩
 by_cases m:new=[];·subst m;refine⟨.bN q 0 es.length none,H,?_,.inr ⟨q,by simp,by simpa using g⟩,l,λq b g f=>⟨g,f⟩⟩;simp only[ga,fu,eJ,n,Option.map_some,cI,if_neg p,I,B,F,c,if_neg J,g,if_true];simp
 have Q : ¬(z≠z\/z=0\/by'=0\/new=[]\/V.cells.length≠z):=(by simp[T,W,S,m]);have A:(H.get q).isSome=true:=by rw[g];rfl
 have v:H.gen q.d q.t=(H.put q none).gen q.d q.t:=(aa.jJ H q none A _ _).symm;refine⟨.bN ⟨q.d,q.t,H.gen q.d q.t,0⟩ 0 (es.length+new.length) none,(⟨q.d,q.t,H.gen q.d q.t,0⟩,some ⟨z,es++new,true,false⟩) :: H.put q none,?_,.inr ⟨⟨q.d,q.t,H.gen q.d q.t,0⟩,by simp,by simp⟩,?_,λU b G f=>?_⟩;·have L:fu P H.get ⟨j,tt,H.gen j tt,0⟩ (some t) (some t') (.bN q 0 es.length none) x=none:=(by simp only[fu,eJ,n,Option.map_some,cI,if_neg p,I,B,F,c,if_neg J,g,if_neg m];simp);simp only[ga,L,EV,Ib];simp only[lx,eJ,n,Option.map_some,cI,if_neg p,I,B,F,c,if_neg Q,g,O,and_self,if_true,iQo]
 ·rw[v];exact(l.put none A).cons _ _ _
 have K:U≠q:=by intro e;subst e;exact f rfl
 have i:=nB l (q:=U) (by rw[G];rfl) q.d q.t 0;rw[aa.fh,if_neg i,aa.get_put,if_neg K];exact⟨G,by intro e;simp only[AV.at?,dG]at e;exact i e⟩
def Own.bN{z:Nat}{es:List AV}{H:aa}{x:AV}(h:Own z es H x)(c:es≠[]) : ∃r,x = .bN r 0 es.length none/\H.get r=some ⟨z,es,true,false⟩:=by
 rcases h with ⟨_,rfl⟩ | h
 ·exact(c rfl).elim
 exact h
end
end Go.Ab
