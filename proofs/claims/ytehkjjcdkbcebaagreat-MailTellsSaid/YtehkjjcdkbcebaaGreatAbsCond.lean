/-
  What is to be shown for a run of the abstract machine, as one proposition that is computed from the code. No statement of a seat is proved here.
-/
import Derived.IntWalk
import Derived.Test.YtehkjjcdkbcebaaGreatAbsEnv
set_option linter.unusedVariables false
set_option linter.unusedSimpArgs false
set_option linter.unusedSectionVars false
set_option linter.unnecessarySimpa false
set_option linter.defProp false
namespace Go.Ab
section
abbrev dg:=Nat->AV
def cg(s:dg):Operand->Option AV
 | .tmp t=>some (s t)
 | .const v=>ofValue v
 | .func f=>some (.fn (.func f) [] [])
 | .global _=>none
def yN(c:Operand->Option AV):List Operand->Option (List AV)
 | []=>some []
 | o :: os=>match c o,yN c os with
  | some x,some xs=>some (x :: xs)
  | _,_=>none
def zh(c:Operand->Option AV):List (Nat × Operand)->Option (List (Nat × AV))
 | []=>some []
 | (i,o) :: os=>match c o,zh c os with
  | some x,some xs=>some ((i,x) :: xs)
  | _,_=>none
def I5(c:Operand->Option AV):Option Operand->Option (Option Int)
 | none=>some none
 | some o=>match (c o).bind intOf with
  | some n=>some (some n)
  | none=>none
def Xt(s:dg)(d:Nat)(v:AV):dg:=λi=>cond (Nat.beq i d) v (s i)
def dt(tm:List AV)(s:dg):Prop :=∀i,dc tm i=s i
def si{tm:List AV}{s:dg}(h:dt tm s):ar tm=cg s:=by
 funext o;cases o<;>simp[ar,cg,h _]
def Aw(c:Operand->Option AV)(l:List Operand):l.mapM c=yN c l:=by
 induction l with| nil=>rfl| cons o l d=>simp only[lH,d,yN,oT,pt];cases c o<;>cases yN c l<;>rfl
def BC{tm:List AV}{s:dg}(h:dt tm s)(l:List (Nat × Operand)):fw tm l=zh (cg s) l:=by
 induction l with| nil=>rfl| cons o l c=>obtain⟨i,o⟩:=o;unfold fw at c ⊢;rw[lH,c];simp only[zh,oT,pt,si h];cases cg s o<;>cases zh (cg s) l<;>rfl
def Hi{tm:List AV}{s:dg}(h:dt tm s)(o:Option Operand):ky tm o=I5 (cg s) o:=by
 cases o with| none=>rfl| some o=>simp only[ky,I5,si h];rfl
def dt.set{tm:List AV}{s:dg}(h:dt tm s)(d:Nat)(v:AV):dt (zV tm d v) (Xt s d v):=by
 intro i;rw[rF];unfold Xt;split;·rename_i e;subst e;simp
 rename_i e;rw[show Nat.beq i d=false from by cases c:Nat.beq i d with | false=>rfl | true=>exact(e (iS c)).elim];exact h i
def yJ(c a b:Option AV):gu:=
 match c.bind BQ with
 | some true=>ik a
 | some false=>ik b
 | none=>none
def kj(H:ab)(r:Ref)(q:gu):bU:=
 match q with
 | some (v,bs)=>some (v,keyed r 0 bs H)
 | none=>none
def CT(c:Bool)(a b:bU):bU:=
 match a with
 | some x=>some x
 | none=>cond c b none
def c9(E:Env)(c:Bool)(pc:FuncId->List AV->Option AV)(tc:qJ->List AV->ab->bU)(H:ab)(r:Ref)(f:Option AV)(args:List AV):bU:=
 CT c (kj H r (jR E pc H.get r f args)) (l8 E pc tc H r f args)
def AK(E:Env)(c:Bool)(pc:FuncId->List AV->Option AV)(tc:qJ->List AV->ab->bU)(H:ab)(r:Ref)(f:Option AV)(args:List AV):bU:=
 CT c (kj H r ((jR E pc H.get r f args).map λp=>(p.1,LK true p.2))) (pv true E.sm H (l8 E pc tc H r f args))
def dK(P:Program)(c:Bool)(H:ab)(r:Ref)(t t':Option TypeId)(s x:AV):bU:=
 CT c (kj H r (dY P H.get r t t' s x)) (iH P H t t' s x)
def mn(P:Program)(u d:Bool)(H:ab)(r:Ref)(t:TypeId)(n:Nat)(c:Option (List (Nat × AV))):bU:=
 CT d (kj H r (gw P u H.get r t n c)) (iT P H r t n c)
def pQ(E:Env)(pc:FuncId->List AV->Option AV)(tc:qJ->List AV->ab->bU)(dep:Nat)(u d:Bool)(s:dg)(H:ab)(r:Ref)(o:Oper):gu ⊕ bU:=
 match o.op with
 | .move x | .assign x => .inl (ik (cg s x))
 | .pick c a b => .inl (yJ (cg s c) (cg s a) (cg s b))
 | .alloc e => .inr (kj H r (tn E.P r e))
 | .box e x => .inr (kj H r (Fp E.P r e (cg s x)))
 | .build t ps => .inl (lz E.P t (zh (cg s) ps.toList))
 | .buildSlice t n ps => .inr (mn E.P (u && !E.strict o) d H r t n (zh (cg s) ps.toList))
 | .load t a => .inl (mP E.P H.get t (cg s a))
 | .store t a x => .inr (cond d (iu E.P H t (cg s a) (cg s x)) none)
 | .nilCheck x => .inl (Bx (cg s x))
 | .binOp op t xo C _ => .inl (bE E.P op t xo C (cg s xo) (cg s C))
 | .unOp op _ x => .inl (Vm E.P op (cg s x))
 | .convert src dst x=>match cM E.P dst with
  | true => .inr (kj H r (bM E.P H.get r src dst (cg s x)))
  | false => .inl (bM E.P H.get r src dst (cg s x))
 | .makeInterface t x => .inl (vq E.P t (cg s x))
 | .makeFunc f first captured => .inl (wy f (yN (cg s) first.toList) (yN (cg s) captured.toList))
 | .makeSlice t l c => .inr (kj H r (wu E.P r t (cg s l) (cg s c)))
 | .slice t x lo hi h=>match E.wide o && !u with
  | true => .inl (sL E.P H.get t (cg s x) (I5 (cg s) lo) (I5 (cg s) hi) (I5 (cg s) h))
  | false => .inl (dm E.P H.get t (cg s x) (I5 (cg s) lo) (I5 (cg s) hi) (I5 (cg s) h))
 | .fieldAddr t x f => .inl (iy E.P t (cg s x) f)
 | .field t x f => .inl (qN E.P t (cg s x) f)
 | .indexAddr t x g => .inl (bI E.P H.get t (cg s x) (cg s g))
 | .index t x g => .inl (tk E.P t (cg s x) (cg s g))
 | .typeAssert x _ want ok => .inl (yc E.P (cg s x) want ok)
 | .extract x i => .inl (qy (cg s x) i)
 | .call c=>
  match yN (cg s) c.args.toList with
  | none => .inl none
  | some args=>
   match c.callee with
   | .value f=>(match Ck E.o1 u f with
    | some t => .inl (IW E.P H.get t args)
    | none=>(match E.fI o with
     | true => .inr (AK E d pc tc H r (cg s f) args)
     | false => .inr (c9 E d pc tc H r (cg s f) args)))
   | .invoke _ _ => .inl none
   | .builtin b=>match b,args with
    | .append,[a,x] => .inr (dK E.P d H r c.argTypes[0]? c.argTypes[1]? a x)
    | .copy,[dst,x]=>(match E.wide o with
     | true => .inr (cond d (Dz E.P H c.argTypes[0]? dst x) none)
     | false => .inr (cond d (Ii E.P H c.argTypes[0]? dst x) none))
    | b,args => .inl (dX E.P (u&&(E.strict o || !(match c.args.toList with | [.tmp _]=>true | _=>false))) H.get r b c.argTypes args)
 | .makeMap _ none => .inr (kj H r (some (.mp r,[nJ []])))
 | .lookup t x k ok => .inl (jQ E.P H.get t (cg s x) (cg s k) ok)
 | .mapUpdate t m k x => .inr (cond d (gN E.P H t (cg s m) (cg s k) (cg s x)) none)
 | .insert t m k x => .inr (cond d (gN E.P H t (cg s m) (cg s k) (cg s x)) none)
 | .mapEntry t m k => .inr (cond d (ou E.P H t (cg s m) (cg s k)) none)
 | .entryStore _ m n x => .inr (cond d (jI H (cg s m) (cg s n) (cg s x)) none)
 | .makeChan t n => .inr (cond d (xQ E.P H r t (cg s n)) none)
 | .send c x => .inr (cond d (Dw H (cg s c) (cg s x)) none)
 | .recv t c ok => .inr (cond d (FI E.P H t (cg s c) ok) none)
 | _ => .inl none
def mV(E:Env)(pc:FuncId->List AV->Option AV)(tc:qJ->List AV->ab->bU)(dep:Nat)(u:Bool)(tm:List AV)(H:ab)(o:Oper):bU:=
 match ca E pc u H.get tm ⟨dep,o.dst.getD 0,H.gen dep (o.dst.getD 0),0⟩ o with
 | some (x,bs)=>some (x,keyed ⟨dep,o.dst.getD 0,H.gen dep (o.dst.getD 0),0⟩ 0 bs H)
 | none=>if u && !fQ E o then none else evalW E pc tc H tm ⟨dep,o.dst.getD 0,H.gen dep (o.dst.getD 0),0⟩ o
def RY(E:Env)(pc:FuncId->List AV->Option AV)(tc:qJ->List AV->ab->bU)(nt dep:Nat)(u:Bool)(ops:Array Oper)(o:Oper)(st:St)(c:(u&&AH E o)=false) :
 evalOp E pc tc nt dep u ops o st=(match wanted ops st.tm o with
  | none=>none
  | some false=>(cG nt st.tm o.dst AV.undef).map λtm => { st with tm}
  | some true=>match mV E pc tc dep u st.tm st.hp o with
   | some (x,H)=>(cG nt st.tm o.dst x).map λtm=>⟨tm,H⟩
   | none=>none):=by
 unfold evalOp mV qQ pU;rw[c];simp only[iQp];cases hw:wanted ops st.tm o with
 | none=>rfl
 | some b=>
 cases b with| false=>rfl| true=>
  cases ca E pc u st.hp.get st.tm ⟨dep,o.dst.getD 0,st.hp.gen dep (o.dst.getD 0),0⟩ o with
  | some p=>rfl
  | none=>
   dsimp only;split;·rfl
   rfl
def RZ{E:Env}{pc:FuncId->List AV->Option AV}{tc:qJ->List AV->ab->bU}{dep:Nat}{u:Bool}{tm:List AV}{H:ab}{o:Oper}{v:AV}
 (h:ca E pc u H.get tm ⟨dep,o.dst.getD 0,H.gen dep (o.dst.getD 0),0⟩ o=some (v,[])):mV E pc tc dep u tm H o=some (v,H):=by
 unfold mV;rw[h];rfl
def JJ{E:Env}{pc:FuncId->List AV->Option AV}{tc:qJ->List AV->ab->bU}{dep:Nat}{u:Bool}{tm:List AV}{H H':ab}{o:Oper}{v:AV}{q:gu}
 (h:ca E pc u H.get tm ⟨dep,o.dst.getD 0,H.gen dep (o.dst.getD 0),0⟩ o=q) (c:kj H ⟨dep,o.dst.getD 0,H.gen dep (o.dst.getD 0),0⟩ q=some (v,H')):mV E pc tc dep u tm H o=some (v,H'):=by
 unfold mV;rw[h];unfold kj at c;split at c;·exact c
 cases c
def jZ{E:Env}{pc:FuncId->List AV->Option AV}{tc:qJ->List AV->ab->bU}{dep:Nat}{u:Bool}{tm:List AV}{H H':ab}{o:Oper}{v:AV}{q:gu}{w:bU}
 (h:ca E pc u H.get tm ⟨dep,o.dst.getD 0,H.gen dep (o.dst.getD 0),0⟩ o=q) (e:evalW E pc tc H tm ⟨dep,o.dst.getD 0,H.gen dep (o.dst.getD 0),0⟩ o=w)
 (c:CT (!(u && !fQ E o)) (kj H ⟨dep,o.dst.getD 0,H.gen dep (o.dst.getD 0),0⟩ q) w=some (v,H')):mV E pc tc dep u tm H o=some (v,H'):=by
 unfold mV;rw[h];cases q with
 | some p=>simpa [CT,kj] using c
 | none=>
  rw[e];cases d:(u && !fQ E o) with
  | true=>rw[d]at c;simp[CT,kj]at c
  | false=>rw[d]at c;simpa [CT,kj] using c
section
variable{E:Env}{pc:FuncId->List AV->Option AV}{tc:qJ->List AV->ab->bU}{dep:Nat}{u:Bool}{tm:List AV}{s:dg}{H:ab}{o:Oper}
def Rf(g:dt tm s){q:gu}{v:AV}
 (h:pQ E pc tc dep u (!(u && !fQ E o)) s H ⟨dep,o.dst.getD 0,H.gen dep (o.dst.getD 0),0⟩ o = .inl q) (n:q=some (v,[])):mV E pc tc dep u tm H o=some (v,H):=by
 subst n;refine RZ ?_;have e:=si g;unfold pQ at h;unfold ca;split at h<;>rename_i i<;>simp only[i];all_goals try (simp only[xc,reduceCtorEq]at h)
 all_goals try (rw[<-h];simp only[e,yJ,Ee,BC g,Hi g,Aw];done)
 ·rw[<-h];unfold Ee yJ;rw[e];rfl
 ·split at h;·cases h
  simp only[xc]at h;rw[<-h,e]
 ·cases d:(E.wide o && !u) with| true=>rw[d]at h;simp only[xc]at h;rw[<-h];simp only[iQn,e,Hi g]| false=>rw[d]at h;simp only[xc]at h;rw[<-h];simp only[iQp,e,Hi g]
 rw[Aw,e];split at h;·cases h
 rename_i args c;rw[c];dsimp only;split at h
 ·rename_i f m;rw[m];dsimp only;split at h;·rename_i t j;simp only[xc]at h;simp only[j];exact h
  split at h<;>cases h
 ·cases h
 rename_i b l;rw[l];dsimp only;split at h;·cases h
 ·split at h<;>cases h
 simp only[xc]at h;exact h
def Re(p:dt tm s){w:bU}{v:AV}{H':ab}
 (h:pQ E pc tc dep u (!(u && !fQ E o)) s H ⟨dep,o.dst.getD 0,H.gen dep (o.dst.getD 0),0⟩ o = .inr w) (z:w=some (v,H')):mV E pc tc dep u tm H o=some (v,H'):=by
 subst z;have e:=si p;unfold pQ at h;split at h<;>rename_i c;all_goals try (simp only[reduceCtorEq]at h;done)
 all_goals try (simp only[uV]at h)
 all_goals try (refine JJ (by unfold ca;simp only[c,e]) h;done)
 ·rw[<-BC p]at h;exact jZ (q:=gw _ _ _ _ _ _ _) (w:=iT _ _ _ _ _ _) (by unfold ca;simp only[c]) (by unfold evalW;simp only[c]) h
 ·rw[<-e]at h;exact jZ (q:=none) (w:=iu _ _ _ _ _) (by unfold ca;simp only[c]) (by unfold evalW;simp only[c]) h
 ·split at h;·simp only[uV]at h;refine JJ (by unfold ca;simp only[c,e]) h
  cases h
 ·split at h<;>cases h
 ·split at h;·cases h
  rename_i args i;have g:=i;rw[<-Aw,<-e]at g;split at h
  ·rename_i f n;split at h;·cases h
   rename_i m;split at h;·rename_i d;simp only[uV]at h;rw[<-e]at h;exact jZ (q:=(jR _ _ _ _ _ _).map _) (w:=pv true _ _ (l8 _ _ _ _ _ _ _)) (by unfold ca;simp only[c,g,n,m,d]) (by unfold evalW;simp only[c,g,n,d]) h
   rename_i d;simp only[uV]at h;rw[<-e]at h;exact jZ (q:=jR _ _ _ _ _ _) (w:=l8 _ _ _ _ _ _ _) (by unfold ca;simp only[c,g,n,m,d,LK];cases jR E pc H.get _ (ar tm f) args<;>rfl) (by unfold evalW;simp only[c,g,n,d];rfl) h
  ·cases h
  rename_i b l;split at h;·simp only[uV]at h;exact jZ (q:=dY _ _ _ _ _ _ _) (w:=iH _ _ _ _ _ _) (by unfold ca;simp only[c,g,l];rfl) (by unfold evalW;simp only[c,g,l]) h
  ·split at h;·rename_i j;simp only[uV]at h;exact jZ (q:=none) (w:=Dz _ _ _ _ _) (by unfold ca;simp only[c,g,l];rfl) (by unfold evalW;simp only[c,g,l,j,iQn]) h
   rename_i j;simp only[uV]at h;exact jZ (q:=none) (w:=Ii _ _ _ _ _) (by unfold ca;simp only[c,g,l];rfl) (by unfold evalW;simp only[c,g,l,j,iQp]) h
  cases h
 ·rw[<-e]at h;exact jZ (q:=none) (w:=gN _ _ _ _ _ _) (by unfold ca;simp only[c]) (by unfold evalW;simp only[c]) h
 ·rw[<-e]at h;exact jZ (q:=none) (w:=gN _ _ _ _ _ _) (by unfold ca;simp only[c]) (by unfold evalW;simp only[c]) h
 ·rw[<-e]at h;exact jZ (q:=none) (w:=ou _ _ _ _ _) (by unfold ca;simp only[c]) (by unfold evalW;simp only[c]) h
 ·rw[<-e]at h;exact jZ (q:=none) (w:=jI _ _ _ _) (by unfold ca;simp only[c]) (by unfold evalW;simp only[c]) h
 ·rw[<-e]at h;exact jZ (q:=none) (w:=xQ _ _ _ _ _) (by unfold ca;simp only[c]) (by unfold evalW;simp only[c]) h
 ·rw[<-e]at h;exact jZ (q:=none) (w:=Dw _ _ _) (by unfold ca;simp only[c]) (by unfold evalW;simp only[c]) h
 rw[<-e]at h;exact jZ (q:=none) (w:=FI _ _ _ _ _) (by unfold ca;simp only[c]) (by unfold evalW;simp only[c]) h
end
def LR(E:Env)(s:dg)(H:ab)(r:Ref)(o:Oper):bU:=
 match o.op with
 | .buildSlice t n ps=>oV E.P H r t n (zh (cg s) ps.toList)
 | .call c=>(match yN (cg s) c.args.toList with
  | some [a,x]=>wg E.P H r c.argTypes[0]? c.argTypes[1]? a x
  | _=>none)
 | _=>none
def AI(E:Env)(u:Bool)(s:dg)(H:ab)(r:Ref)(o:Oper):Option bU:=if !AH E o then none else some (if u && !fQ E o then none else LR E s H r o)
def JU(E:Env)(u:Bool)(H:ab)(tm:List AV)(r:Ref)(o:Oper):Option bU:=if !AH E o then none else some (if u && !fQ E o then none else uI E H tm r o)
def O8{E:Env}{tm:List AV}{s:dg}{H:ab}{r:Ref}{o:Oper}(d:dt tm s):uI E H tm r o=LR E s H r o:=by
 unfold uI LR;generalize o.op=op;cases op;case buildSlice t n ps=>dsimp only;rw[BC d]
 case call c=>
  dsimp only;rw[<-si d,<-Aw];generalize c.args.toList.mapM (ar tm)=l;match l with
  | none=>rfl
  | some []=>rfl
  | some [_]=>rfl
  | some [_,_]=>rfl
  | some (_ :: _ :: _ :: _)=>rfl
 all_goals rfl
def JS{E:Env}{u:Bool}{tm:List AV}{s:dg}{H:ab}{r:Ref}{o:Oper}(c:dt tm s):JU E u H tm r o=AI E u s H r o:=by
 unfold JU AI;rw[O8 c]
def uy(E:Env)(pc:FuncId->List AV->Option AV)(tc:qJ->List AV->ab->bU)(dep:Nat)(u c:Bool)(s:dg)(H:ab)(r:Ref)(o:Oper):gu ⊕ bU:=
 match AI E u s H r o with
 | some w => .inr w
 | none=>pQ E pc tc dep u c s H r o
def uE(E:Env)(pc:FuncId->List AV->Option AV)(tc:qJ->List AV->ab->bU)(dep:Nat)(u:Bool)(tm:List AV)(H:ab)(o:Oper):bU:=
 match JU E u H tm ⟨dep,o.dst.getD 0,H.gen dep (o.dst.getD 0),0⟩ o with
 | some w=>w
 | none=>mV E pc tc dep u tm H o
def HB(E:Env)(pc:FuncId->List AV->Option AV)(tc:qJ->List AV->ab->bU)(nt dep:Nat)(u:Bool)(ops:Array Oper)(o:Oper)(st:St) :
 wC E pc tc nt dep u ops o st=(match wanted ops st.tm o with
  | none=>none
  | some false=>(cG nt st.tm o.dst AV.undef).map λtm => { st with tm}
  | some true=>match uE E pc tc dep u st.tm st.hp o with
   | some (x,H)=>(cG nt st.tm o.dst x).map λtm=>⟨tm,H⟩
   | none=>none):=by
 unfold wC uE Nl JU;cases c:AH E o with
 | false=>simp only[sF,Gu,if_true];exact RY E pc tc nt dep u ops o st (by rw[c,vZ])
 | true=>
  cases u with| false=>rfl| true=>
   simp only[Bb,if_true,tN,hU,iQf,kX];unfold evalOp qQ pU;rw[c];simp only[yv,iQn,kX];cases wanted ops st.tm o with
   | none=>rfl
   | some b=>
    cases b with
    | false=>rfl
    | true=>
     dsimp only;split;·rfl
     rfl
section
variable{E:Env}{pc:FuncId->List AV->Option AV}{tc:qJ->List AV->ab->bU}{dep:Nat}{u:Bool}{tm:List AV}{s:dg}{H:ab}{o:Oper}
def Ua(c:dt tm s){q:gu}{v:AV}
 (h:uy E pc tc dep u (!(u && !fQ E o)) s H ⟨dep,o.dst.getD 0,H.gen dep (o.dst.getD 0),0⟩ o = .inl q) (e:q=some (v,[])):uE E pc tc dep u tm H o=some (v,H):=by
 unfold uy at h;unfold uE;rw[JS c];cases d:AI E u s H ⟨dep,o.dst.getD 0,H.gen dep (o.dst.getD 0),0⟩ o with
 | some w=>rw[d]at h;cases h
 | none=>rw[d]at h;exact Rf c h e
def T9(e:dt tm s){w:bU}{v:AV}{H':ab}
 (h:uy E pc tc dep u (!(u && !fQ E o)) s H ⟨dep,o.dst.getD 0,H.gen dep (o.dst.getD 0),0⟩ o = .inr w) (d:w=some (v,H')):uE E pc tc dep u tm H o=some (v,H'):=by
 unfold uy at h;unfold uE;rw[JS e];cases c:AI E u s H ⟨dep,o.dst.getD 0,H.gen dep (o.dst.getD 0),0⟩ o with
 | some w'=>rw[c]at h;cases h;exact d
 | none=>rw[c]at h;exact Re e h d
end
open Classical in
noncomputable def aK(E:Env)(f:FuncId)(args:List AV):Option AV:=
 if h : ∃y n,∀m,n<=m->cD E (bT E m) f args=some y then some h.choose else none
def vG{E:Env}{f:FuncId}{args:List AV}{y:AV}:aK E f args=some y ↔ ∃n,∀m,n<=m->cD E (bT E m) f args=some y:=by
 unfold aK;constructor
 ·intro h;split at h;·rename_i d;simp only[du]at h;rw[<-h];exact d.choose_spec
  cases h
 intro h;rw[dif_pos ⟨y,h⟩];obtain⟨n,g⟩:=h;have d : ∃y n,∀m,n<=m->cD E (bT E m) f args=some y:=⟨y,n,g⟩;obtain⟨e,c⟩:=d.choose_spec;have i:=g (max n e) (Nat.le_max_left ..);have j:=c (max n e) (Nat.le_max_right ..);exact j.symm.trans i
open Classical in
noncomputable def cU(E:Env)(dep:Nat)(f:qJ)(args:List AV)(H:ab):bU:=
 if h : ∃y n,∀m,n<=m->dM E (bT E m) dep f args H=some y then some h.choose else none
def ry{E:Env}{dep:Nat}{f:qJ}{args:List AV}{H:ab}{y:AV × ab}:cU E dep f args H=some y ↔ ∃n,∀m,n<=m->dM E (bT E m) dep f args H=some y:=by
 unfold cU;constructor
 ·intro h;split at h;·rename_i d;simp only[du]at h;rw[<-h];exact d.choose_spec
  cases h
 intro h;rw[dif_pos ⟨y,h⟩];obtain⟨n,g⟩:=h;have d : ∃y n,∀m,n<=m->dM E (bT E m) dep f args H=some y:=⟨y,n,g⟩;obtain⟨e,c⟩:=d.choose_spec;have i:=g (max n e) (Nat.le_max_left ..);have j:=c (max n e) (Nat.le_max_right ..);exact j.symm.trans i
def JZ{E:Env}{d:Bool}{dep:Nat}{H H':ab}{r:Ref}{f:Option AV}{args:List AV}{v:AV}(h:c9 E d (aK E) (cU E dep) H r f args=some (v,H')) :
 ∃n,∀m,n<=m->c9 E d (cD E (bT E m)) (dM E (bT E m) dep) H r f args=some (v,H'):=by
 unfold c9 at h ⊢;by_cases l : ∃g first captured,f=some (.fn (.func g) first captured)
 ·obtain⟨g,first,captured,rfl⟩:=l;by_cases i:E.mode g=2
  ·simp only[jR,l8,if_pos i,kj,CT]at h ⊢;cases d with
   | true=>simp only[iQn]at h ⊢;obtain⟨n,e⟩:=ry.1 h;exact⟨n,e⟩
   | false=>simp at h
  simp only[jR,l8,if_neg i]at h ⊢;cases w:(first++args++captured).mapM (view H.get depth) with
  | none=>rw[w]at h;simp[kj,CT]at h
  | some xs=>
   rw[w]at h;dsimp only at h ⊢;cases c:aK E g xs with
   | none=>rw[c]at h;simp[kj,CT]at h
   | some y=>rw[c]at h;obtain⟨n,e⟩:=vG.1 c;refine⟨n,λm p=>?_⟩;rw[e m p];exact h
 have j : ∀pc,jR E pc H.get r f args=none:=by
  intro pc;unfold jR;split;·exact(l ⟨_,_,_,rfl⟩).elim
  rfl
 by_cases c : ∃q,f=some (.yld q)
 ·obtain⟨q,rfl⟩:=c;rw[j]at h;cases d with
  | false=>simp[kj,CT]at h
  | true=>have z:cU E dep (.yld q) args H=some (v,H'):=h;obtain⟨n,e⟩:=ry.1 z;refine⟨n,λm p=>?_⟩;rw[j];exact e m p
 have i : ∀pc tc,l8 E pc tc H r f args=none:=by
  intro pc tc;unfold l8;split;·exact(l ⟨_,_,_,rfl⟩).elim
  ·exact(c ⟨_,rfl⟩).elim
  rfl
 rw[j,i]at h;cases d<;>simp[kj,CT]at h
def Dx{sm:J7}{H H':ab}{x:bU}{v:AV}(h:pv true sm H x=some (v,H')) : ∃c,x=some (v,c)/\H'=H/\flat depth v=true/\(EB H c||sm.f H c)=true:=by
 cases x with| none=>simp[pv]at h| some p=>
  obtain⟨y,c⟩:=p;unfold pv at h;simp only at h;split at h;·rename_i d;cases h;rw[bD]at d;exact⟨c,rfl,rfl,d.1,d.2⟩
  cases h
def HK{E:Env}{e:Bool}{dep:Nat}{H H':ab}{r:Ref}{f:Option AV}{args:List AV}{v:AV}(h:AK E e (aK E) (cU E dep) H r f args=some (v,H')) :
 ∃n,∀m,n<=m->AK E e (cD E (bT E m)) (dM E (bT E m) dep) H r f args=some (v,H'):=by
 unfold AK at h ⊢;by_cases z : ∃j first captured,f=some (.fn (.func j) first captured)
 ·obtain⟨j,first,captured,rfl⟩:=z;by_cases l:E.mode j=2
  ·simp only[jR,l8,if_pos l,kj,CT,xf]at h ⊢;cases e with
   | true=>simp only[iQn]at h ⊢;obtain⟨H1,d,B,D,F⟩:=Dx h;obtain⟨n,g⟩:=ry.1 d;refine⟨n,λm i=>?_⟩;rw[g m i];rw[d]at h;exact h
   | false=>simp at h
  simp only[jR,l8,if_neg l]at h ⊢;cases A:(first++args++captured).mapM (view H.get depth) with
  | none=>rw[A]at h;simp[kj,CT,pv]at h
  | some xs=>
   rw[A]at h;dsimp only at h ⊢;cases c:aK E j xs with
   | none=>rw[c]at h;simp[kj,CT,pv]at h
   | some y=>rw[c]at h;obtain⟨n,g⟩:=vG.1 c;refine⟨n,λm i=>?_⟩;rw[g m i];exact h
 have w : ∀pc,jR E pc H.get r f args=none:=by
  intro pc;unfold jR;split;·exact(z ⟨_,_,_,rfl⟩).elim
  rfl
 by_cases c : ∃q,f=some (.yld q)
 ·obtain⟨q,rfl⟩:=c;rw[w]at h;cases e with
  | false=>simp[kj,CT]at h
  | true=>have p:pv true E.sm H (cU E dep (.yld q) args H)=some (v,H'):=h;obtain⟨H1,d,_⟩:=Dx p;obtain⟨n,g⟩:=ry.1 d;refine⟨n,λm i=>?_⟩;rw[w];show pv true E.sm H (dM E (bT E m) dep (.yld q) args H)=_;rw[g m i];rw[d]at p;exact p
 have l : ∀pc tc,l8 E pc tc H r f args=none:=by
  intro pc tc;unfold l8;split;·exact(z ⟨_,_,_,rfl⟩).elim
  ·exact(c ⟨_,rfl⟩).elim
  rfl
 rw[w,l]at h;cases e<;>simp[kj,CT,pv]at h
def Eo{E:Env}{dep:Nat}{u j:Bool}{s:dg}{H:ab}{r:Ref}{o:Oper} :
 (∀q v,pQ E (aK E) (cU E dep) dep u j s H r o = .inl q->q=some (v,[]) ->∃n,∀m,n<=m->pQ E (cD E (bT E m)) (dM E (bT E m) dep) dep u j s H r o = .inl (some (v,[]))) /\
 (∀w v H',pQ E (aK E) (cU E dep) dep u j s H r o = .inr w->w=some (v,H') ->∃n,∀m,n<=m->pQ E (cD E (bT E m)) (dM E (bT E m) dep) dep u j s H r o = .inr (some (v,H'))):=by
 constructor
 ·intro q v h A;subst A;refine⟨0,λm _=>?_⟩;unfold pQ at h ⊢;generalize o.op=op at h ⊢;cases op;all_goals try exact h
  case makeMap a b=>cases b<;>exact h
  rename_i c;dsimp only at h ⊢;cases i:yN (cg s) c.args.toList with
  | none=>rw[i]at h;exact h
  | some args=>
   rw[i]at h;dsimp only at h ⊢;cases e:c.callee with
   | value f=>
    rw[e]at h;dsimp only at h ⊢;cases d:Ck E.o1 u f with
    | some t=>rw[d]at h;exact h
    | none=>rw[d]at h;dsimp only at h;split at h<;>cases h
   | invoke a b=>rw[e]at h;exact h
   | builtin b=>rw[e]at h;exact h
 intro w v H' h z;subst z;unfold pQ at h ⊢;generalize o.op=op at h ⊢;cases op;all_goals try (exact⟨0,λm _=>h⟩)
 case makeMap a b=>cases b<;>exact⟨0,λm _=>h⟩
 rename_i c;dsimp only at h ⊢;cases i:yN (cg s) c.args.toList with
 | none=>rw[i]at h;cases h
 | some args=>
  rw[i]at h;dsimp only at h ⊢;cases e:c.callee with
  | value f=>
   rw[e]at h;dsimp only at h ⊢;cases d:Ck E.o1 u f with
   | some t=>rw[d]at h;cases h
   | none=>
   rw[d]at h;dsimp only at h ⊢;cases g:E.fI o with
   | true=>rw[g]at h;simp only[uV]at h;obtain⟨n,l⟩:=HK h;exact⟨n,λm p=>iQh _ (l m p)⟩
   | false=>rw[g]at h;simp only[uV]at h;obtain⟨n,l⟩:=JZ h;exact⟨n,λm p=>iQh _ (l m p)⟩
  | invoke a b=>rw[e]at h;cases h
  | builtin b=>rw[e]at h;exact⟨0,λm _=>h⟩
def FY{E:Env}{dep:Nat}{u d:Bool}{s:dg}{H:ab}{r:Ref}{o:Oper} :
 (∀q v,uy E (aK E) (cU E dep) dep u d s H r o = .inl q->q=some (v,[]) ->∃n,∀m,n<=m->uy E (cD E (bT E m)) (dM E (bT E m) dep) dep u d s H r o = .inl (some (v,[]))) /\
 (∀w v H',uy E (aK E) (cU E dep) dep u d s H r o = .inr w->w=some (v,H') ->∃n,∀m,n<=m->uy E (cD E (bT E m)) (dM E (bT E m) dep) dep u d s H r o = .inr (some (v,H'))):=by
 constructor
 ·intro q v h g;unfold uy at h ⊢;cases c:AI E u s H r o with
  | some w=>rw[c]at h;cases h
  | none=>rw[c]at h;obtain⟨n,e⟩:=Eo.1 q v h g;exact⟨n,e⟩
 intro w v H' h f;unfold uy at h ⊢;cases c:AI E u s H r o with
 | some w'=>rw[c]at h;cases h;exact⟨0,λm _=>by rw[f]⟩
 | none=>rw[c]at h;obtain⟨n,e⟩:=Eo.2 w v H' h f;exact⟨n,e⟩
abbrev Mk{c:Type}(a:c):Type:=Unit
structure fg (q:gu) (K:AV->Prop) (m:Mk K:=()):Prop where
 h : ∃v,q=some (v,[])/\K v
structure jF (w:bU) (K:AV->ab->Prop) (m:Mk K:=()):Prop where
 h : ∃v H,w=some (v,H)/\K v H
def U4(x:AV)(c:Bool):Option Bool:=
 match x with
 | .v (.bool b)=>some (b == c)
 | .v (.tuple d)=>if d.isEmpty then some false else none
 | _=>none
def gd(x:AV)(c:Bool)(A B:Prop):Prop:=
 match U4 x c with
 | some true=>A
 | some false=>B
 | none=>False
structure gQ (x:AV) (want:Bool) (q:gu) (K:AV->Prop) (m:Mk (q,K):=()):Prop where
 h:gd x want (fg q K) (K AV.undef)
structure gW (x:AV) (want:Bool) (H:ab) (w:bU) (K:AV->ab->Prop) (m:Mk (w,K):=()):Prop where
 h:gd x want (jF w K) (K AV.undef H)
def brP(x:Option AV)(A B:Prop):Prop:=
 match x.bind BQ with
 | some b=>cond b A B
 | none=>False
structure br (x:Option AV) (A B:Prop) (m:Mk (A,B):=()):Prop where
 h:brP x A B
def Hy(ops:Array Oper)(s:dg)(o:Oper):Option (Option (AV × Bool)):=
 match o.guard with
 | none=>none
 | some (j,want)=>match (ops[j]?).bind (·.dst) with
  | some t=>some (some (s t,want))
  | none=>some none
def Fq(nt:Nat)(s:dg)(dst:Option Tmp)(v:AV)(K:dg->Prop):Prop:=
 match dst with
 | none=>K s
 | some d=>cond (Nat.blt d nt) (K (Xt s d v)) False
def wpOp(E:Env)(nt dep:Nat)(u:Bool)(ops:Array Oper)(o:Oper)(s:dg)(H:ab)(K:dg->ab->Prop):Prop:=
 match uy E (aK E) (cU E dep) dep u (!(u && !fQ E o)) s H ⟨dep,o.dst.getD 0,H.gen dep (o.dst.getD 0),0⟩ o with
 | .inl q=>match Hy ops s o with
  | none=>(match o.op with
   | .move x | .assign x=>(match cg s x with
    | some v=>Fq nt s o.dst v λs=>K s H
    | none=>False)
   | _=>fg q λv=>Fq nt s o.dst v λs=>K s H)
  | some (some (x,want))=>gQ x want q λv=>Fq nt s o.dst v λs=>K s H
  | some none=>Fq nt s o.dst AV.undef λs=>K s H
 | .inr w=>match Hy ops s o with
  | none=>jF w λv H=>Fq nt s o.dst v λs=>K s H
  | some (some (x,want))=>gW x want H w λv H=>Fq nt s o.dst v λs=>K s H
  | some none=>Fq nt s o.dst AV.undef λs=>K s H
def wpOps(E:Env)(nt dep:Nat)(u:Bool)(ops:Array Oper):List Oper->dg->ab->(dg->ab->Prop)->Prop
 | [],s,H,K=>K s H
 | o :: os,s,H,K=>wpOp E nt dep u ops o s H λs H=>wpOps E nt dep u ops os s H K
def Fin(E:Env)(fn:Func)(rd:Option Ref)(o:Option St)(y:AV)(H':ab):Prop:=match rd with
 | none =>∃st,o=some st/\ur E.P fn st=some y/\st.hp=H'
 | some r =>∃st n,o=tq (some r) st n/\y = .v (.int .i64 (n:Nat))/\st.hp=H'
def Goes(E:Env)(fn:Func)(rd:Option Ref)(dep:Nat)(c:List Item)(s:dg)(H:ab)(Q:AV->ab->Prop):Prop:=
 ∀tm,dt tm s ->∃y H',Q y H' /\∃n,∀m,n<=m->Fin E fn rd (bT E m rd fn.ntmps dep c ⟨tm,H⟩) y H'
def Lo(g:dg):List (Nat × AV)->dg
 | [],i=>g i
 | (j,v) :: l,i=>cond (Nat.beq i j) v (Lo g l i)
structure UT (E:Env) (fn:Func) (rd:Option Ref) (dep:Nat) (items:List Item) (l:List (Nat × AV)) (H:ab) (Q:AV->ab->Prop):Prop where
 h : ∀g,Goes E fn rd dep items (Lo g l) H Q
abbrev bL(E:Env)(fn:Func)(dep:Nat)(c:List Item)(l:List (Nat × AV))(H:ab)(Q:AV->ab->Prop):Prop:=UT E fn none dep c l H Q
def z7(s:dg):List Nat->List (Nat × AV)
 | []=>[]
 | t :: c=>(t,s t) :: z7 s c
def Ri(s:dg)(l:List Nat):Lo s (z7 s l)=s:=by
 induction l with| nil=>rfl| cons t l c=>
  funext i;show cond (Nat.beq i t) (s t) (Lo s (z7 s l) i)=s i;rw[c];cases h:Nat.beq i t with
  | true=>rw[iS h];rfl
  | false=>rfl
def jX:Code->Option Nat
 | .region id _ _=>some id
 | .seq a b=>match jX a with
  | some i=>some i
  | none=>jX b
 | .cond _ a b=>match jX a with
  | some i=>some i
  | none=>jX b
 | .block _ c | .loop c | .scope c=>jX c
 | _=>none
def xq(P:Program)(H:ab)(x:AV)(t:TypeId):gu:=
 match x,eD P t,av P t with
 | .ptr r i j,some g,some n=>match H.get r with
  | some b=>ik (dQ b.es i j n g)
  | none=>none
 | _,_,_=>none
def pack:List AV->AV
 | [] => .v (.tuple #[])
 | [x]=>x
 | xs => .tup xs
def Dv(P:Program)(s:dg)(H:ab)(Q:AV->ab->Prop):List ResultVar->List AV->Prop
 | [],acc=>Q (pack acc.reverse) H
 | .tmp t :: rs,acc=>Dv P s H Q rs (s t :: acc)
 | .cell a t :: rs,acc=>fg (xq P H (s a) t) λv=>Dv P s H Q rs (v :: acc)
def lu(x y:AV):Bool:=match iC x,iC y with
 | some r,some r'=>decide (r≠r')
 | _,_=>true
def DU(H:ab)(x:AV):Bool:=match x with
 | .ptr r _ _=>(match H.get r with
  | some b => !b.arr
  | none=>false)
 | _=>true
def bsV(x:AV):Bool:=match x with
 | .bO .. => true
 | .v _=>true
 | _=>false
def QH(s:dg)(p:Tmp × Tmp):Bool:=lu (s p.1) (s p.2)
def DV(s:dg)(H:ab)(o:Oper):Bool:=match o.op with
 | .store _ (.tmp t) _=>DU H (s t)
 | _=>true
def Nt(E:Env)(s:dg)(o:Oper):Bool := !(E.fI o&&xK o.op)||(match V7 o.op with
 | some t=>bsV (s t)
 | none=>false)
def SA(E:Env)(l:List (Tmp × Tmp))(ops:Array Oper)(s:dg)(H:ab):Prop:=l.all (QH s)=true/\ops.toList.all (DV s H)=true/\ops.toList.all (Nt E s)=true
def vN(l:List (AV × AV))(st bs:List AV)(H:ab):Prop:=(l.all λp=>lu p.1 p.2)=true/\st.all (DU H)=true/\bs.all bsV=true
def Vf(assign body:Code):Nat:=match jX (.seq assign body) with
 | some i=>i+10000
 | none=>10000
structure bgP (o:Option (Nat × AV)) (K:AV->Prop) (m:Mk K:=()):Prop where
 h : ∃info,o=some (0,info)/\K info
def Ic(P:Program)(fn:Func)(rd:Option Ref)(code:Nat)(s:dg)(H:ab)(Q:AV->ab->Prop):Prop:=match rd with
 | none=>cond (Nat.ble code 2) (Dv P s H Q fn.results.toList []) False
 | some _=>Q (.v (.int .i64 code)) H
def wp(E:Env)(fn:Func)(rd:Option Ref)(dep:Nat)(live:Nat->Option (List Nat))(cut:Nat->Bool)(Q:AV->ab->Prop):Nat->List Item->dg->ab->Prop
 | 0,items,s,H=>Goes E fn rd dep items s H Q
 | n+1,items,s,H=>
  match items with
  | []=>Ic E.P fn rd 0 s H Q
  | .beginRound :: k=>(match rd with
   | none=>False
   | some r=>bgP (vF H r) λd=>wp E fn rd dep live cut Q n k s (H.put r (some (eu 1 d))))
  | .code c :: k=>
   (match c with
   | .skip | .label _=>wp E fn rd dep live cut Q n k s H
   | .ret=>Ic E.P fn rd 2 s H Q
   | .seq a b=>wp E fn rd dep live cut Q n (.code a :: .code b :: k) s H
   | .cond c a b=>br (cg s c) (wp E fn rd dep live cut Q n (.code a :: k) s H) (wp E fn rd dep live cut Q n (.code b :: k) s H)
   | .block id b=>wp E fn rd dep live cut Q n (.code b :: .inBlock id :: k) s H
   | .scope b=>wp E fn rd dep live cut Q n (.code b :: .inScope b :: k) s H
   | .loop b=>(match (jX b).bind live with
    | some l=>UT E fn rd dep (.inLoop b :: k) (z7 s l) H Q
    | none=>Goes E fn rd dep (.inLoop b :: k) s H Q)
   | .exit id=>(match exitTo id k with
    | some k'=>wp E fn rd dep live cut Q n k' s H
    | none=>Ic E.P fn rd (id+3) s H Q)
   | .rangeFunc g ps a b=>(match live (Vf a b) with
    | some l=>UT E fn rd dep (.code (.rangeFunc g ps a b) :: k) (z7 s l) H Q
    | none=>Goes E fn rd dep (.code (.rangeFunc g ps a b) :: k) s H Q)
   | .region id ops u=>(match cut id with
    | true=>(match live id with
     | some l=>UT E fn rd dep (.code (.region id ops u) :: k) (z7 s l) H Q
     | none=>False)
    | false=>wpOps E fn.ntmps dep u ops ops.toList s H λs H=>
     (match u,o9 E ops with
     | true,p :: ps=>SA E (p :: ps) ops s H/\wp E fn rd dep live cut Q n k s H
     | _,_=>wp E fn rd dep live cut Q n k s H))
   | _=>False)
  | .inLoop b :: k=>(match (jX b).bind live with
   | some l=>UT E fn rd dep (.inLoop b :: k) (z7 s l) H Q
   | none=>Goes E fn rd dep (.inLoop b :: k) s H Q)
  | .inBlock _ :: k | .inScope _ :: k=>wp E fn rd dep live cut Q n k s H
  | _=>False
def qq{ops:Array Oper}{tm:List AV}{s:dg}(h:dt tm s)(o:Oper):wanted ops tm o=(match Hy ops s o with
 | none=>some true
 | some (some (x,c))=>U4 x c
 | some none=>some false):=by
 unfold wanted Hy;split;·rename_i e;rw[e]
 rename_i j c e;rw[e];dsimp only;split;·rename_i t d;rw[d];dsimp only;rw[h t];rfl
 rename_i d;rw[d]
def sM{nt:Nat}{s:dg}{dst:Option Tmp}{v:AV}{K:dg->Prop}(h:Fq nt s dst v K) : ∃g,K g /\∀tm,dt tm s ->∃tm',cG nt tm dst v=some tm'/\dt tm' g:=by
 unfold Fq at h;cases dst with
 | none=>exact⟨s,h,λtm c=>⟨tm,rfl,c⟩⟩
 | some d=>
  dsimp only at h;cases f:Nat.blt d nt with
  | false=>rw[f]at h;exact h.elim
  | true=>rw[f]at h;refine⟨_,h,λtm c=>⟨_,?_,c.set d v⟩⟩;have e:d<nt:=Bh f;simp only[cG,if_pos e]
def SV{E:Env}{nt dep:Nat}{u:Bool}{ops:Array Oper}{o:Oper}{s:dg}{H:ab}{K:dg->ab->Prop}(h:wpOp E nt dep u ops o s H K) :
 ∃c H',K c H' /\∀tm,dt tm s ->∃tm',dt tm' c /\∃n,∀m,n<=m->wC E (cD E (bT E m)) (dM E (bT E m) dep) nt dep u ops o ⟨tm,H⟩=some ⟨tm',H'⟩:=by
 have run : ∀(v:AV)(H':ab)(c:dg),(∀tm,dt tm s->wanted ops tm o=some true)->(∃n,∀m,n<=m ->∀tm,dt tm s->uE E (cD E (bT E m)) (dM E (bT E m) dep) dep u tm H o=some (v,H')) ->
  (∀tm,dt tm s ->∃tm',cG nt tm o.dst v=some tm'/\dt tm' c) ->
  ∀tm,dt tm s ->∃tm',dt tm' c /\∃n,∀m,n<=m->wC E (cD E (bT E m)) (dM E (bT E m) dep) nt dep u ops o ⟨tm,H⟩=some ⟨tm',H'⟩:=by
  intro v H' c p ⟨n,B⟩ hp tm d;obtain⟨tm',J,L⟩:=hp tm d;refine⟨tm',L,n,λm G=>?_⟩;rw[HB];dsimp only;rw[p tm d,B m G tm d];dsimp only;rw[J];rfl
 have i : ∀(c:dg),(∀tm,dt tm s->wanted ops tm o=some false)->(∀tm,dt tm s ->∃tm',cG nt tm o.dst AV.undef=some tm'/\dt tm' c) ->
  ∀tm,dt tm s ->∃tm',dt tm' c /\∃n,∀m,n<=m->wC E (cD E (bT E m)) (dM E (bT E m) dep) nt dep u ops o ⟨tm,H⟩=some ⟨tm',H⟩:=by
  intro c p hp tm d;obtain⟨tm',J,L⟩:=hp tm d;refine⟨tm',L,0,λm _=>?_⟩;rw[HB];dsimp only;rw[p tm d];dsimp only;rw[J];rfl
 unfold wpOp at h;split at h
 ·rename_i q z;have D : ∀v,q=some (v,[]) ->∃n,∀m,n<=m ->∀tm,dt tm s->uE E (cD E (bT E m)) (dM E (bT E m) dep) dep u tm H o=some (v,H):=by
   intro v e;obtain⟨n,B⟩:=FY.1 q v z e;exact⟨n,λm G tm d=>Ua d (B m G) rfl⟩
  split at h
  ·rename_i j;have p : ∀tm,dt tm s->wanted ops tm o=some true:=λtm d=>by rw[qq d,j]
   have g : ∀v,q=some (v,[])->Fq nt s o.dst v (λs=>K s H) ->∃c H',K c H' /\∀tm,dt tm s ->∃tm',dt tm' c /\∃n,∀m,n<=m->wC E (cD E (bT E m)) (dM E (bT E m) dep) nt dep u ops o ⟨tm,H⟩=some ⟨tm',H'⟩:=(by intro v e hp;obtain⟨c,f,hp⟩:=sM hp;exact⟨c,H,f,run v H c p (D v e) hp⟩);split at h
   ·rename_i x I;split at h;·rename_i v e;refine g v ?_ h;unfold uy AI AH pQ at z;simp only[I,V2,vZ,sF,if_true,xc,e]at z;rw[<-z];rfl
    exact h.elim
   ·rename_i x I;split at h;·rename_i v e;refine g v ?_ h;unfold uy AI AH pQ at z;simp only[I,V2,vZ,sF,if_true,xc,e]at z;rw[<-z];rfl
    exact h.elim
   obtain⟨v,e,h⟩:=h.h;exact g v e h
  ·rename_i x A j;replace h:=h.h;unfold gd at h;split at h;·rename_i l;obtain⟨v,e,h⟩:=h.h;obtain⟨c,f,hp⟩:=sM h;exact⟨c,H,f,run v H c (λtm d=>by rw[qq d,j];exact l) (D v e) hp⟩
   ·rename_i l;obtain⟨c,f,hp⟩:=sM h;exact⟨c,H,f,i c (λtm d=>by rw[qq d,j];exact l) hp⟩
   exact h.elim
  rename_i j;obtain⟨c,f,hp⟩:=sM h;exact⟨c,H,f,i c (λtm d=>by rw[qq d,j]) hp⟩
 rename_i w p;have F : ∀v H',w=some (v,H') ->∃n,∀m,n<=m ->∀tm,dt tm s->uE E (cD E (bT E m)) (dM E (bT E m) dep) dep u tm H o=some (v,H'):=by
  intro v H' e;obtain⟨n,B⟩:=FY.2 w v H' p e;exact⟨n,λm G tm d=>T9 d (B m G) rfl⟩
 split at h;·rename_i j;obtain⟨v,H',e,h⟩:=h.h;obtain⟨c,f,hp⟩:=sM h;exact⟨c,H',f,run v H' c (λtm d=>by rw[qq d,j]) (F v H' e) hp⟩
 ·rename_i x A j;replace h:=h.h;unfold gd at h;split at h;·rename_i l;obtain⟨v,H',e,h⟩:=h.h;obtain⟨c,f,hp⟩:=sM h;exact⟨c,H',f,run v H' c (λtm d=>by rw[qq d,j];exact l) (F v H' e) hp⟩
  ·rename_i l;obtain⟨c,f,hp⟩:=sM h;exact⟨c,H,f,i c (λtm d=>by rw[qq d,j];exact l) hp⟩
  exact h.elim
 rename_i j;obtain⟨c,f,hp⟩:=sM h;exact⟨c,H,f,i c (λtm d=>by rw[qq d,j]) hp⟩
def PJ{E:Env}{nt dep:Nat}{u:Bool}{ops:Array Oper}{K:dg->ab->Prop} : ∀ {l:List Oper} {s:dg} {H:ab},wpOps E nt dep u ops l s H K ->
 ∃g H',K g H' /\∀tm,dt tm s ->∃tm',dt tm' g /\∃n,∀m,n<=m->lU E (cD E (bT E m)) (dM E (bT E m) dep) nt dep u ops l ⟨tm,H⟩=some ⟨tm',H'⟩:=by
 intro l;induction l with
 | nil=>intro s H h;exact⟨s,H,h,λtm d=>⟨tm,d,0,λm _=>rfl⟩⟩
 | cons o l q=>intro s H h;obtain⟨s1,H1,p,c⟩:=SV h;obtain⟨s2,H2,v,e⟩:=q p;refine⟨s2,H2,v,λtm d=>?_⟩;obtain⟨tm1,t1,n1,i⟩:=c tm d;obtain⟨f,t2,n2,j⟩:=e tm1 t1;exact⟨f,t2,max n1 n2,λm w=>by simp only[lU,i m (by omega),j m (by omega)]⟩
def PI{P:Program}{fn:Func}{s:dg}{H:ab}{Q:AV->ab->Prop} : ∀ {rs:List ResultVar} {c:List AV},Dv P s H Q rs c ->
 ∃ys,Q (pack (c.reverse++ys)) H /\∀tm,dt tm s->rs.mapM (j4 P ⟨tm,H⟩)=some ys:=by
 intro rs;induction rs with
 | nil=>intro c h;exact⟨[],by simpa [Dv] using h,λtm _=>rfl⟩
 | cons r rs p=>
  intro c h;cases r with
  | tmp t=>obtain⟨ys,l,m⟩:=p h;refine⟨s t :: ys,by simpa using l,λtm f=>?_⟩;simp only[lH,j4,m tm f,f t,oT,pt,cR]
  | cell a t=>
   obtain⟨v,d,h⟩:=h.h;obtain⟨ys,l,m⟩:=p h;refine⟨v :: ys,by simpa using l,λtm f=>?_⟩;have B:j4 P ⟨tm,H⟩ (.cell a t)=some v:=by
    unfold xq at d;simp only[j4,f a];split at d
    ·rename_i r i j g n A D F;rw[A,D,F];dsimp only;split at d;·rename_i b w;rw[w];dsimp only;simp only[ik,bA]at d;obtain⟨z,q,e⟩:=d;cases e;exact q
     cases d
    cases d
   simp only[lH,B,m tm f,oT,pt,cR]
def IQ{E:Env}{fn:Func}{s:dg}{H:ab}{Q:AV->ab->Prop}(h:Dv E.P s H Q fn.results.toList []) : ∃y,Q y H /\∀tm,dt tm s->ur E.P fn ⟨tm,H⟩=some y:=by
 obtain⟨ys,c,e⟩:=PI (fn:=fn) h;refine⟨pack ys,by simpa using c,λtm d=>?_⟩;unfold ur;rw[e tm d];match ys with
 | []=>rfl
 | [x]=>rfl
 | x :: y :: zs=>rfl
def nh{E:Env}{fn:Func}{rd:Option Ref}{dep:Nat}{d c:List Item}{s:dg}{H:ab}{Q:AV->ab->Prop}
 (g : ∀n tm,bT E (n+1) rd fn.ntmps dep d ⟨tm,H⟩=bT E n rd fn.ntmps dep c ⟨tm,H⟩) (h:Goes E fn rd dep c s H Q):Goes E fn rd dep d s H Q:=by
 intro tm e;obtain⟨y,H',j,n,i⟩:=h tm e;refine⟨y,H',j,n+1,λm l=>?_⟩;obtain⟨m,rfl⟩ : ∃f,m=f+1:=⟨m - 1,by omega⟩;rw[g];exact i m (by omega)
def OX{E:Env}{fn:Func}{rd:Option Ref}{dep:Nat}{b:Code}{k:List Item}{s:dg}{H:ab}{Q:AV->ab->Prop}(h:Goes E fn rd dep (.code b :: .inLoop b :: k) s H Q):Goes E fn rd dep (.inLoop b :: k) s H Q:=
 nh (λn tm=>by simp only[bT]) h
def LI{E:Env}{fn:Func}{rd:Option Ref}{dep:Nat}{b:Code}{k:List Item}{s:dg}{H:ab}{Q:AV->ab->Prop}(h:Goes E fn rd dep (.inLoop b :: k) s H Q):Goes E fn rd dep (.code (.loop b) :: k) s H Q:=by
 intro tm c;obtain⟨y,H',g,n,f⟩:=h tm c;refine⟨y,H',g,n+1,λm i=>?_⟩;obtain⟨m,rfl⟩ : ∃d,m=d+1:=⟨m - 1,by omega⟩;have:=f (m+1) (by omega);have e:bT E (m+1) rd fn.ntmps dep (.code (.loop b) :: k) ⟨tm,H⟩=bT E (m+1) rd fn.ntmps dep (.inLoop b :: k) ⟨tm,H⟩:=by simp only[bT]
 rw[e];exact this
def Gb{E:Env}{fn:Func}{rd:Option Ref}{dep:Nat}{c:List Item}{s:dg}{l:List Nat}{H:ab}{Q:AV->ab->Prop}(h:UT E fn rd dep c (z7 s l) H Q):Goes E fn rd dep c s H Q:=by
 have:=h.h s;rwa [Ri]at this
def EF{E:Env}{fn:Func}{rd:Option Ref}{dep code:Nat}{c:List Item}{s:dg}{H:ab}{Q:AV->ab->Prop}
 (f : ∀n tm,rd.isSome=true\/code<=2->bT E (n+1) rd fn.ntmps dep c ⟨tm,H⟩=(match rd with | none=>some ⟨tm,H⟩ | some r=>tq (some r) ⟨tm,H⟩ code)) (h:Ic E.P fn rd code s H Q):Goes E fn rd dep c s H Q:=by
 intro tm j;cases rd with
 | none=>
  unfold Ic at h;dsimp only at h;cases d:Nat.ble code 2 with
  | false=>rw[d]at h;exact h.elim
  | true=>rw[d]at h;obtain⟨y,i,g⟩:=IQ h;refine⟨y,H,i,1,λm l=>?_⟩;obtain⟨m,rfl⟩ : ∃e,m=e+1:=⟨m - 1,by omega⟩;exact⟨⟨tm,H⟩,f m tm (.inr (Bh d)),g tm j,rfl⟩
 | some r=>refine⟨.v (.int .i64 code),H,h,1,λm l=>?_⟩;obtain⟨m,rfl⟩ : ∃e,m=e+1:=⟨m - 1,by omega⟩;exact⟨⟨tm,H⟩,code,f m tm (.inl rfl),rfl,rfl⟩
def Ph{E:Env}{ops:Array Oper}{s:dg}{H:ab}{tm:List AV}(c:dt tm s)(h:SA E (o9 E ops) ops s H):qo E ops ⟨tm,H⟩=true:=by
 unfold qo;rw[lI,bD];refine .inr ⟨?_,?_⟩;·refine Eq.trans ?_ h.1;congr 1;funext p;unfold Ch QH lu;rw[c,c];rfl
 rw[bD];refine⟨Eq.trans ?_ h.2.1,Eq.trans ?_ h.2.2⟩
 ·congr 1;funext o;unfold uh DV;generalize o.op=op;cases op<;>try rfl
  rename_i t a x;cases a<;>try rfl
  rename_i t';dsimp only;rw[c t'];rfl
 congr 1;funext o;unfold EX Nt;congr 1;cases V7 o.op with
 | none=>rfl
 | some t=>dsimp only;rw[c t];rfl
def kZ{E:Env}{fn:Func}{rd:Option Ref}{dep:Nat}{live:Nat->Option (List Nat)}{cut:Nat->Bool}{Q:AV->ab->Prop} : ∀ {n:Nat} {d:List Item} {s:dg} {H:ab},
 wp E fn rd dep live cut Q n d s H->Goes E fn rd dep d s H Q:=by
 intro n;induction n with
 | zero=>intro d s H h;exact h
 | succ n f=>
  intro d s H h;have g : ∀ {k:List Item} {x:Option (List Nat)},(match x with | some l=>UT E fn rd dep k (z7 s l) H Q | none=>Goes E fn rd dep k s H Q)->Goes E fn rd dep k s H Q:=by
   intro k x h;cases x with
   | some l=>exact Gb h
   | none=>exact h
  unfold wp at h;split at h;·exact EF (λn tm _=>by cases rd<;>simp only[bT]) h
  ·rename_i k;split at h;·exact h.elim
   rename_i r;obtain⟨info,N,h⟩:=h.h;intro tm i;obtain⟨y,H',q,n,D⟩:=f h tm i;refine⟨y,H',q,n+1,λm K=>?_⟩;obtain⟨m,rfl⟩ : ∃v,m=v+1:=⟨m - 1,by omega⟩;have:=D m (by omega);have e:bT E (m+1) (some r) fn.ntmps dep (.beginRound :: k) ⟨tm,H⟩=bT E m (some r) fn.ntmps dep k ⟨tm,H.put r (some (eu 1 info))⟩:=by simp only[bT,N]
   rw[e];exact this
  ·rename_i c k;split at h;·exact nh (λn tm=>by simp only[bT]) (f h)
   ·exact nh (λn tm=>by simp only[bT]) (f h)
   ·exact EF (λn tm _=>by cases rd<;>simp[bT,tq]) h
   ·exact nh (λn tm=>by simp only[bT]) (f h)
   ·rename_i c a b;replace h:=h.h;unfold brP at h;split at h
    ·rename_i z M;have I:Goes E fn rd dep (.code (cond z a b) :: k) s H Q:=by cases z<;>exact f h
     intro tm i;obtain⟨y,H',q,n,D⟩:=I tm i;refine⟨y,H',q,n+1,λm K=>?_⟩;obtain⟨m,rfl⟩ : ∃v,m=v+1:=⟨m - 1,by omega⟩;have:=D m (by omega);have e:bT E (m+1) rd fn.ntmps dep (.code (.cond c a b) :: k) ⟨tm,H⟩=bT E m rd fn.ntmps dep (.code (cond z a b) :: k) ⟨tm,H⟩:=by
      simp only[bT,si i,M];cases z<;>rfl
     rw[e];exact this
    exact h.elim
   ·exact nh (λn tm=>by simp only[bT]) (f h)
   ·exact nh (λn tm=>by simp only[bT]) (f h)
   ·exact LI (g h)
   ·rename_i id;split at h;·rename_i k' F;exact nh (λn tm=>by simp only[bT,F]) (f h)
    rename_i F;exact EF (λn tm w=>by
     simp only[bT,F];cases rd with
     | none=>
      rcases w with w | w
      ·cases w
      omega
     | some r=>rfl) h
   ·exact g h
   ·rename_i id ops u;split at h
    ·split at h;·exact Gb h
     exact h.elim
    obtain⟨J,H',j,B⟩:=PJ h;have O:Goes E fn rd dep k J H' Q /\∀tm,dt tm J->(u && !qo E ops ⟨tm,H'⟩)=false:=by
     cases u with| false=>exact⟨f j,λ_ _=>rfl⟩| true=>
      cases hp:o9 E ops with
      | nil=>rw[hp]at j;refine⟨f j,λtm i=>?_⟩;unfold qo;rw[hp];rfl
      | cons p ps=>rw[hp]at j;exact⟨f j.2,λtm i=>by rw[Ph i (by rw[hp];exact j.1)];rfl⟩
    obtain⟨I,A⟩:=O;intro tm i;obtain⟨tm1,t1,n1,L⟩:=B tm i;obtain⟨y,H2,q,n2,G⟩:=I tm1 t1;refine⟨y,H2,q,max n1 n2+1,λm K=>?_⟩;obtain⟨m,rfl⟩ : ∃v,m=v+1:=⟨m - 1,by omega⟩;have:=G m (by omega);have e:bT E (m+1) rd fn.ntmps dep (.code (.region id ops u) :: k) ⟨tm,H⟩=bT E m rd fn.ntmps dep k ⟨tm1,H'⟩:=(by simp only[bT,L m (by omega),A tm1 t1];simp);rw[e];exact this
   exact h.elim
  ·exact g h
  ·exact nh (λn tm=>by simp only[bT]) (f h)
  ·exact nh (λn tm=>by simp only[bT]) (f h)
  exact h.elim
def yQ:Nat->List AV->List (Nat × AV)
 | _,[]=>[]
 | i,x :: xs=>(i,x) :: yQ (i+1) xs
def Ak(args:List AV)(i:Nat):Lo (λ_=>AV.undef) (yQ 0 args) i=dc args i:=by
 have : ∀(j:Nat)(l:List AV),Lo (λ_=>AV.undef) (yQ j l) (j+i)=dc l i:=by
  induction i with
  | zero=>
   intro j l;cases l with
   | nil=>rfl
   | cons x l=>show cond (Nat.beq (j+0) j) x _=x;rw[show Nat.beq (j+0) j=true from by simp];rfl
  | succ i c=>
   intro j l;cases l with
   | nil=>rfl
   | cons x l=>
    show cond (Nat.beq (j+(i+1)) j) x (Lo (λ_=>AV.undef) (yQ (j+1) l) (j+(i+1)))=dc l i;have e:Nat.beq (j+(i+1)) j=false:=by
     cases h:Nat.beq (j+(i+1)) j with| false=>rfl| true=>have:=iS h;omega
    rw[e];show Lo _ _ _=_;rw[<-c (j+1) l,show j+1+i=j+(i+1) by omega]
 simpa using this 0 args
def handed(E:Env)(f:FuncId)(x:AV)(H:ab)(y:AV):Prop:=
 if xA (E.mode f)=true then (ad H.get depth x).Nodup/\bK H.get depth x=some y else view H.get depth x=some y
def M5{E:Env}{f:FuncId}{fn:Func}{c:Code}{args:List AV}{y:AV}(j:E.spec f args=none)(g:E.allowed f=true)(v:E.P.funcs[f]?=some fn)(q:fn.body=some c)(w:Nat.ble args.length fn.ntmps=true)
 (h:bL E fn 0 [.code c] (yQ 0 args) [] λx H=>handed E f x H y):aK E f args=some y:=by
 rw[vG];obtain⟨x,H,d,n,p⟩:=h.h (λ_=>AV.undef) args λi=>(Ak args i).symm;refine⟨n,λm A=>?_⟩;obtain⟨st,e,z,l⟩:=p m A;subst l;unfold cD;rw[j];unfold qR;simp only[g,if_true,v,q,if_pos (Bh w),e,z,Option.map_some];unfold handed at d;split;·rename_i e;rw[if_pos e]at d;rw[if_pos d.1];exact d.2
 rename_i e;rw[if_neg e]at d;exact d
def cQ{E:Env}{f:FuncId}{fn:Func}{c:Code}{dep:Nat}{args:List AV}{H:ab}{Q:AV->ab->Prop}(B:E.mode f=2)(d:E.allowed f=true)(w:E.P.funcs[f]?=some fn)(v:fn.body=some c)(z:Nat.ble args.length fn.ntmps=true)
 (h:bL E fn (dep+1) [.code c] (yQ 0 args) H Q) (g:E.thrSpec f args H=none:=by rfl) : ∃y H',cU E dep (.fn f) args H=some (y,H')/\Q y H':=by
 obtain⟨x,H1,p,n,l⟩:=h.h (λ_=>AV.undef) args λi=>(Ak args i).symm;refine⟨x,H1,ry.2 ⟨n,λm e=>?_⟩,p⟩;obtain⟨st,q,A,j⟩:=l m e;unfold dM;dsimp only;rw[g];dsimp only;rw[if_pos B];unfold qR;simp only[d,if_true,w,v,if_pos (Bh z),q,A,Option.map_some,j]
def RB{E:Env}{fn:Func}{dep nt:Nat}{r:Ref}{f:FuncId}{ps:List Tmp}{assign body:Code}{tm:List AV}{args:List AV}{H:ab}{Q:AV->ab->Prop}
 (F:vF H r=some (0,.lp f nt ps assign body tm)) (A:fn.ntmps=nt) (hp:args.length=ps.length) (g:ps.all (· < nt)=true) (B:codeOk E.ok assign=true) (w:codeOk E.ok body=true)
 (h:Goes E fn (some r) (dep+1) [.code assign,.beginRound,.code body] (dc (tj tm ps args)) H λx H' =>∃code:Nat,x = .v (.int .i64 code) /\∃c H2,vF H' r=some (1,c)/\H2=H'.put r (some (eu code c)) /\
  vF H2 r=some (code,c)/\(code=0->Q (.v (.bool true)) H2)/\(2<=code->Q (.v (.bool false)) H2)/\code≠1) :
 ∃y H',cU E dep (.yld r) args H=some (y,H')/\Q y H':=by
 obtain⟨x,H1,⟨code,rfl,c,H2,D,rfl,I,p,j,d⟩,n,l⟩:=h (tj tm ps args) (λi=>rfl);have key : ∀m,n<=m->ya E (bT E m) (dep+1) r args H=some (.v (.bool (code == 0)),H1.put r (some (eu code c))):=by
  intro m J;obtain⟨st,k,z,e,G⟩:=l m J;injection e with e
  injection e with e q
  have q:code=k:=(by exact_mod_cast q);subst q;subst A;unfold ya;rw[F];simp only;rw[if_pos ⟨hp,g,B,w⟩,z];unfold tq;simp only[G,D,I];match code with
  | 0=>rfl
  | 1=>exact(d rfl).elim
  | k+2=>rfl
 have aat : ∀m,n<=m->dM E (bT E m) dep (.yld r) args H=some (.v (.bool (code == 0)),H1.put r (some (eu code c))):=key;refine⟨_,_,ry.2 ⟨n,aat⟩,?_⟩;match code with
 | 0=>exact p rfl
 | 1=>exact(d rfl).elim
 | k+2=>exact j (by omega)
def LH{E:Env}{fn:Func}{dep:Nat}{g:Operand}{ps:Array Tmp}{assign body:Code}{k:List Item}{s:dg}{H:ab}{Q:AV->ab->Prop}{gi:FuncId}{first captured:List AV}
 (F:cg s g=some (.fn (.func gi) first captured))
 (h : ∀tm,dt tm s ->∃v c st d,cU E dep (.fn gi) (first++[.yld ⟨dep,fn.ntmps,H.gen dep fn.ntmps,0⟩]++captured) ((⟨dep,fn.ntmps,H.gen dep fn.ntmps,0⟩,some (eu 0 (.lp 0 fn.ntmps ps.toList assign body tm))) :: H)=some (v,c) /\
  vF c ⟨dep,fn.ntmps,H.gen dep fn.ntmps,0⟩=some (st,d) /\
  (
   (st=0/\Goes E fn none dep k s (c.put ⟨dep,fn.ntmps,H.gen dep fn.ntmps,0⟩ none) Q) \/
   (st=2/\Dv E.P s (c.put ⟨dep,fn.ntmps,H.gen dep fn.ntmps,0⟩ none) Q fn.results.toList []) \/
   (∃id k',st=id+3/\exitTo id k=some k'/\Goes E fn none dep k' s (c.put ⟨dep,fn.ntmps,H.gen dep fn.ntmps,0⟩ none) Q))) :
 Goes E fn none dep (.code (.rangeFunc g ps assign body) :: k) s H Q:=by
 intro tm p;obtain⟨v,c,st,d,D,w,B⟩:=h tm p;obtain⟨n1,f⟩:=ry.1 D;have i:ar tm g=some (.fn (.func gi) first captured):=by rw[si p];exact F
 rcases B with ⟨rfl,n⟩ | ⟨rfl,n⟩ | ⟨id,k',rfl,he,n⟩
 ·obtain⟨y,H',l,n2,j⟩:=n tm p;refine⟨y,H',l,max n1 n2+1,λm z=>?_⟩;obtain⟨m,rfl⟩ : ∃q,m=q+1:=⟨m - 1,by omega⟩;have e:bT E (m+1) none fn.ntmps dep (.code (.rangeFunc g ps assign body) :: k) ⟨tm,H⟩=bT E m none fn.ntmps dep k ⟨tm,c.put ⟨dep,fn.ntmps,H.gen dep fn.ntmps,0⟩ none⟩:=(by simp only[bT,i,f m (by omega),w]);rw[e];exact j m (by omega)
 ·obtain⟨y,l,A⟩:=IQ n;refine⟨y,_,l,n1+1,λm z=>?_⟩;obtain⟨m,rfl⟩ : ∃q,m=q+1:=⟨m - 1,by omega⟩;have e:bT E (m+1) none fn.ntmps dep (.code (.rangeFunc g ps assign body) :: k) ⟨tm,H⟩=some ⟨tm,c.put ⟨dep,fn.ntmps,H.gen dep fn.ntmps,0⟩ none⟩:=(by simp only[bT,i,f m (by omega),w]);rw[e];exact⟨_,rfl,A tm p,rfl⟩
 obtain⟨y,H',l,n2,j⟩:=n tm p;refine⟨y,H',l,max n1 n2+1,λm z=>?_⟩;obtain⟨m,rfl⟩ : ∃q,m=q+1:=⟨m - 1,by omega⟩;have e:bT E (m+1) none fn.ntmps dep (.code (.rangeFunc g ps assign body) :: k) ⟨tm,H⟩=bT E m none fn.ntmps dep k' ⟨tm,c.put ⟨dep,fn.ntmps,H.gen dep fn.ntmps,0⟩ none⟩:=(by simp only[bT,i,f m (by omega),w,he]);rw[e];exact j m (by omega)
def RD{E:Env}{f:FuncId}{args:List AV}{y:AV}(h:aK E f args=some y) : ∃n,cD E (bT E n) f args=some y:=by
 obtain⟨n,c⟩:=vG.1 h;exact⟨n,c n (aV _)⟩
def nT(r:Nat):Nat->List Item->Option (List Item)
 | 0,_=>none
 | n+1,items=>
  match items with
  | .code c :: k=>(match c with
   | .seq a b=>nT r n (.code a :: .code b :: k)
   | .cond _ a b=>(match nT r n (.code a :: k) with
    | some l=>some l
    | none=>nT r n (.code b :: k))
   | .block id b=>nT r n (.code b :: .inBlock id :: k)
   | .scope b=>nT r n (.code b :: .inScope b :: k)
   | .loop b=>(match jX b with
    | some i=>cond (Nat.beq i r) (some (.inLoop b :: k)) (nT r n (.code b :: .inLoop b :: k))
    | none=>none)
   | .exit id=>(match exitTo id k with
    | some k'=>nT r n k'
    | none=>none)
   | .skip | .label _ | .region _ _ _=>nT r n k
   | _=>none)
  | .inBlock _ :: k | .inScope _ :: k=>nT r n k
  | _=>none
def fe(r:Nat):Nat->List Item->Option (List Item)
 | 0,_=>none
 | n+1,items=>
  match items with
  | .code c :: k=>(match c with
   | .seq a b=>fe r n (.code a :: .code b :: k)
   | .cond _ a b=>(match fe r n (.code a :: k) with
    | some l=>some l
    | none=>fe r n (.code b :: k))
   | .block id b=>fe r n (.code b :: .inBlock id :: k)
   | .scope b=>fe r n (.code b :: .inScope b :: k)
   | .loop b=>fe r n (.code b :: .inLoop b :: k)
   | .exit id=>(match exitTo id k with
    | some k'=>fe r n k'
    | none=>none)
   | .region i ops u=>cond (Nat.beq i r) (some items) (fe r n k)
   | .skip | .label _=>fe r n k
   | _=>none)
  | .inBlock _ :: k | .inScope _ :: k=>fe r n k
  | _=>none
def kH(r:Nat):Nat->List Item->Option (List Item)
 | 0,_=>none
 | n+1,items=>
  match items with
  | .code c :: k=>(match c with
   | .seq a b=>kH r n (.code a :: .code b :: k)
   | .cond _ a b=>(match kH r n (.code a :: k) with
    | some l=>some l
    | none=>kH r n (.code b :: k))
   | .block id b=>kH r n (.code b :: .inBlock id :: k)
   | .scope b=>kH r n (.code b :: .inScope b :: k)
   | .loop b=>kH r n (.code b :: .inLoop b :: k)
   | .exit id=>(match exitTo id k with
    | some k'=>kH r n k'
    | none=>none)
   | .rangeFunc _ _ a b=>cond (Nat.beq (Vf a b) r) (some items) (kH r n k)
   | .skip | .label _ | .region _ _ _=>kH r n k
   | _=>none)
  | .inBlock _ :: k | .inScope _ :: k=>kH r n k
  | _=>none
def rfA:List Item->Code
 | .code (.rangeFunc _ _ a _) :: _=>a
 | _ => .skip
def rfB:List Item->Code
 | .code (.rangeFunc _ _ _ b) :: _=>b
 | _ => .skip
def rfK:List Item->List Item
 | _ :: k=>k
 | []=>[]
def LX:List Item->List Item
 | .inLoop b :: k => .code b :: .inLoop b :: k
 | l=>l
def EG{E:Env}{fn:Func}{rd:Option Ref}{dep:Nat}{c:List Item}{l:List (Nat × AV)}{H:ab}{Q:AV->ab->Prop}(h : ∀g,Goes E fn rd dep (LX c) (Lo g l) H Q):UT E fn rd dep c l H Q:=by
 refine⟨λg=>?_⟩;have:=h g;unfold LX at this;split at this;·exact OX this
 exact this
def oi(x:AV):Option (Option Int):=match intOf x with
 | some n=>some (some n)
 | none=>none
end
section
def Pl(pc c:FuncId->List AV->Option AV):Prop :=∀f d y,pc f d=some y->c f d=some y
def SC(tc c:qJ->List AV->ab->bU):Prop :=∀f d H y,tc f d H=some y->c f d H=some y
def K9{E:Env}{pc c:FuncId->List AV->Option AV}(hp:Pl pc c){g:cb}{r:Ref}{f:Option AV}{args:List AV}{z:AV × List aP}(h:jR E pc g r f args=some z):jR E c g r f args=some z:=by
 unfold jR at h ⊢;split at h
 ·split at h;·cases h
  rename_i e;rw[if_neg e];split at h
  ·rename_i j i;split at h;·rename_i y d;rw[hp _ _ _ d];exact h
   cases h
  cases h
 cases h
def QW{E:Env}{pc c:FuncId->List AV->Option AV}{tc g:qJ->List AV->ab->bU}(hp:Pl pc c)(i:SC tc g){H:ab}{r:Ref}{f:Option AV}{args:List AV} :
 (jR E pc H.get r f args=none ->∀z,l8 E pc tc H r f args=some z->l8 E c g H r f args=some z/\jR E c H.get r f args=none):=by
 intro d z h;unfold jR at d ⊢;unfold l8 at h ⊢;split at h
 ·rename_i m first captured
  dsimp only at d ⊢;split at h;·rename_i e;rw[if_pos e,if_pos e];exact⟨i _ _ _ _ h,rfl⟩
  rename_i e;rw[if_neg e]at d;rw[if_neg e,if_neg e];split at h
  ·rename_i n l;try rw[l]at d
   dsimp only at d ⊢;simp only[bA]at h;obtain⟨y,j,h⟩:=h;rw[j]at d;rw[hp _ _ _ j];exact⟨by rw[Option.map_some,h],d⟩
  cases h
 ·exact⟨i _ _ _ _ h,rfl⟩
 cases h
def JK{E:Env}{pc d:FuncId->List AV->Option AV}{tc l:qJ->List AV->ab->bU}(hp:Pl pc d)(I:SC tc l){dep:Nat}{u:Bool}{tm:List AV}{H:ab}{o:Oper}{z:AV × ab}
 (h:mV E pc tc dep u tm H o=some z):mV E d l dep u tm H o=some z:=by
 by_cases w : ∃c f args,o.op = .call c/\c.args.toList.mapM (ar tm)=some args/\c.callee = .value f
 ·obtain⟨c,f,args,m,v,q⟩:=w;unfold mV ca evalW at h ⊢;simp only[m,v,q]at h ⊢;cases j:Ck E.o1 u f with
  | some t=>
   rw[j]at h;dsimp only at h ⊢;cases F:IW E.P H.get t args with
   | some p=>rw[F]at h;exact h
   | none=>
    rw[F]at h;dsimp only at h ⊢;split at h;·cases h
    rename_i A;rw[if_neg A];have D : ∃g,f = .func g:=by unfold Ck at j;split at j<;>simp_all
    obtain⟨g,rfl⟩:=D;simp only[ar,l8]at h ⊢;by_cases J:E.mode g=2
    ·rw[if_pos J]at h ⊢;cases i:tc (.fn g) ([]++args++[]) H with
     | none=>rw[i]at h;unfold pv at h;split at h<;>(try split at h)<;>simp_all
     | some L=>rw[i]at h;rw[I _ _ _ _ i];exact h
    rw[if_neg J]at h ⊢;cases G:([]++args++[]:List AV).mapM (view H.get depth) with
    | none=>rw[G]at h;exact h
    | some xs=>
     rw[G]at h;dsimp only at h ⊢;cases B:pc g xs with
     | none=>rw[B]at h;unfold pv at h;split at h<;>(try split at h)<;>simp_all
     | some y=>rw[B]at h;rw[hp _ _ _ B];exact h
  | none=>
  rw[j]at h;dsimp only at h ⊢;cases n:jR E pc H.get ⟨dep,o.dst.getD 0,H.gen dep (o.dst.getD 0),0⟩ (ar tm f) args with
  | some p=>rw[n]at h;rw[K9 hp n];exact h
  | none=>
   rw[n]at h;simp only[xf]at h;split at h;·cases h
   rename_i A;cases i:l8 E pc tc H ⟨dep,o.dst.getD 0,H.gen dep (o.dst.getD 0),0⟩ (ar tm f) args with
   | none=>
    rw[i]at h;unfold pv at h;split at h;·rename_i e;cases e
    cases h
   | some L=>obtain⟨K,M⟩:=QW hp I n _ i;rw[M,K];rw[i]at h;simp only[xf,if_neg A];exact h
 have:mV E pc tc dep u tm H o=mV E d l dep u tm H o:=by
  have n:ca E pc u H.get tm ⟨dep,o.dst.getD 0,H.gen dep (o.dst.getD 0),0⟩ o=ca E d u H.get tm ⟨dep,o.dst.getD 0,H.gen dep (o.dst.getD 0),0⟩ o:=by
   cases m:o.op<;>simp only[ca,m];case makeMap a b=>cases b<;>rfl
   rename_i c;cases v:c.args.toList.mapM (ar tm) with
   | none=>rfl
   | some args=>
    cases q:c.callee with| value f=>exact(w ⟨c,f,args,m,v,q⟩).elim| invoke _ _=>rfl| builtin b=>rfl
  have i:evalW E pc tc H tm ⟨dep,o.dst.getD 0,H.gen dep (o.dst.getD 0),0⟩ o=evalW E d l H tm ⟨dep,o.dst.getD 0,H.gen dep (o.dst.getD 0),0⟩ o:=by
   cases m:o.op<;>simp only[evalW,m];rename_i c;cases v:c.args.toList.mapM (ar tm) with| none=>rfl| some args=>
    cases q:c.callee with
    | value f=>exact(w ⟨c,f,args,m,v,q⟩).elim
    | invoke _ _=>rfl
    | builtin b=>rfl
  unfold mV;rw[n,i]
 rw[<-this];exact h
def LO{E:Env}{pc c:FuncId->List AV->Option AV}{tc d:qJ->List AV->ab->bU}(hp:Pl pc c)(f:SC tc d){dep:Nat}{u:Bool}{tm:List AV}{H:ab}{o:Oper}{z:AV × ab}
 (h:uE E pc tc dep u tm H o=some z):uE E c d dep u tm H o=some z:=by
 unfold uE at h ⊢;cases e:JU E u H tm ⟨dep,o.dst.getD 0,H.gen dep (o.dst.getD 0),0⟩ o with
 | some w=>rw[e]at h;exact h
 | none=>rw[e]at h;exact JK hp f h
def IL{E:Env}{pc e:FuncId->List AV->Option AV}{tc f:qJ->List AV->ab->bU}(hp:Pl pc e)(j:SC tc f){nt dep:Nat}{u:Bool}{ops:Array Oper} : ∀ {l:List Oper} {st d:St},
 lU E pc tc nt dep u ops l st=some d->lU E e f nt dep u ops l st=some d:=by
 intro l;induction l with
 | nil=>intro st d h;exact h
 | cons o l m=>
  intro st d h;unfold lU at h ⊢;cases c:wC E pc tc nt dep u ops o st with
  | none=>rw[c]at h;cases h
  | some g=>
   rw[c]at h;have:wC E e f nt dep u ops o st=some g:=by
    rw[HB]at c ⊢;cases hw:wanted ops st.tm o with
    | none=>rw[hw]at c;cases c
    | some b=>
     rw[hw]at c;cases b with
     | false=>exact c
     | true=>
      dsimp only at c ⊢;cases i:uE E pc tc dep u st.tm st.hp o with
      | none=>rw[i]at c;cases c
      | some z=>rw[i]at c;rw[LO hp j i];exact c
   rw[this];exact m h
def Cx{E:Env}{run e:Option Ref->Nat->Nat->List Item->St->Option St}(n : ∀rd nt dep d st g,run rd nt dep d st=some g->e rd nt dep d st=some g){dep:Nat}{f:FuncId}{args:List AV}{H:ab}{z:AV × ab}
 (h:qR E run dep f args H=some z):qR E e dep f args H=some z:=by
 unfold qR at h ⊢;split at h
 ·rename_i p;rw[if_pos p];cases l:E.P.funcs[f]? with
  | none=>rw[l]at h;cases h
  | some fn=>
   rw[l]at h;dsimp only at h ⊢;cases j:fn.body with
   | none=>rw[j]at h;cases h
   | some c=>
    rw[j]at h;dsimp only at h ⊢;split at h
    ·rename_i m;rw[if_pos m];cases i:run none fn.ntmps dep [.code c] ⟨args,H⟩ with
     | none=>rw[i]at h;cases h
     | some st=>rw[i]at h;rw[n _ _ _ _ _ _ i];exact h
    cases h
 cases h
def yI{E:Env}{run d:Option Ref->Nat->Nat->List Item->St->Option St}(l : ∀rd nt dep c st e,run rd nt dep c st=some e->d rd nt dep c st=some e):Pl (cD E run) (cD E d):=by
 intro f i y h;unfold cD at h ⊢;cases j:E.spec f i with
 | some s=>rw[j]at h;exact h
 | none=>
  rw[j]at h;dsimp only at h ⊢;cases g:qR E run 0 f i [] with
  | none=>rw[g]at h;cases h
  | some z=>rw[g]at h;rw[Cx l g];exact h
def zW{E:Env}{run d:Option Ref->Nat->Nat->List Item->St->Option St}(l : ∀rd nt dep c st e,run rd nt dep c st=some e->d rd nt dep c st=some e)(dep:Nat):SC (dM E run dep) (dM E d dep):=by
 intro f i H y h;unfold dM at h ⊢;cases f with
 | fn f=>
  dsimp only at h ⊢;cases j:E.thrSpec f i H with
  | some s=>rw[j]at h;exact h
  | none=>
  rw[j]at h;dsimp only at h ⊢;split at h;·rename_i n;rw[if_pos n];exact Cx l h
  cases h
 | yld r=>
  dsimp only at h ⊢;unfold ya at h ⊢;split at h
  ·rename_i f nt ps assign body tm p;split at h
   ·rename_i m;rw[if_pos m];cases g:run (some r) nt (dep+1) [.code assign,.beginRound,.code body] ⟨tj tm ps i,H⟩ with
    | none=>rw[g]at h;cases h
    | some st=>rw[g]at h;rw[l _ _ _ _ _ _ g];exact h
   cases h
  cases h
def Oe{E:Env} : ∀(n:Nat)(rd:Option Ref)(nt dep:Nat)(d:List Item)(st f:St),bT E n rd nt dep d st=some f->bT E (n+1) rd nt dep d st=some f:=by
 intro n;induction n with
 | zero=>intro rd nt dep d st f h;simp[bT]at h
 | succ n e=>
  intro rd nt dep d st f h;unfold bT at h ⊢;split at h;·exact h
  ·split at h;·exact h
   rename_i r;split at h;·exact e _ _ _ _ _ _ h
   cases h
  ·split at h;all_goals try exact h
   all_goals try exact e _ _ _ _ _ _ h
   ·rename_i c a b;split at h;·exact e _ _ _ _ _ _ h
    ·exact e _ _ _ _ _ _ h
    cases h
   ·split at h;·exact e _ _ _ _ _ _ h
    exact h
   ·rename_i ops u;cases g:lU E (cD E (bT E n)) (dM E (bT E n) dep) nt dep u ops ops.toList st with
    | none=>rw[g]at h;cases h
    | some i=>
     rw[g]at h;rw[IL (yI e) (zW e dep) g];dsimp only at h ⊢;split at h;·cases h
     rename_i j;rw[if_neg j];exact e _ _ _ _ _ _ h
   split at h
   ·split at h
    ·rename_i x H' g;rw[zW e dep _ _ _ _ g];dsimp only;split at h;·exact e _ _ _ _ _ _ h
     ·exact h
     ·split at h;·exact e _ _ _ _ _ _ h
      cases h
     cases h
    cases h
   cases h
  all_goals try exact e _ _ _ _ _ _ h
  all_goals cases h
def TF{E:Env}{n m:Nat}(f:n<=m){rd:Option Ref}{nt dep:Nat}{c:List Item}{st d:St}(h:bT E n rd nt dep c st=some d):bT E m rd nt dep c st=some d:=by
 induction f with| refl=>exact h| step _ e=>exact Oe _ _ _ _ _ _ _ e
def Cq{E:Env}{n:Nat}{f:FuncId}{args:List AV}{y:AV}(h:cD E (bT E n) f args=some y):aK E f args=some y:=
 vG.2 ⟨n,λ_ c=>yI (λ_ _ _ _ _ _ h=>TF c h) _ _ _ h⟩
end
section
abbrev aI(n:Int):AV := .v (.int .i64 n)
abbrev aB(b:Bool):AV := .v (.bool b)
def a8(n:UInt8):AV := .v (.int .u8 (n.toNat:Int))
def cH(n:UInt32):AV := .v (.int .u32 (n.toNat:Int))
abbrev aS(s:ByteArray):AV := .v (.string s)
abbrev a9:AV := .v (.slice none 0 0)
def EN{q:gu}{K:AV->Prop}{m:Mk K}{v:AV}(c:q=some (v,[]))(h:K v):fg q K m:=⟨v,c,h⟩
def jd{w:bU}{K:AV->ab->Prop}{m:Mk K}{v:AV}{H:ab}(c:w=some (v,H))(h:K v H):jF w K m:=⟨v,H,c,h⟩
@[simp] def aaY(v:AV)(K:AV->Prop)(m:Mk K):fg (some (v,[])) K m↔K v:=
 ⟨λ⟨⟨w,hw,h⟩⟩=>by cases hw;exact h,λh=>⟨v,rfl,h⟩⟩
@[simp] def adf(c:Prop)[Decidable c](q:gu)(K:AV->Prop)(m:Mk K):fg (if c then q else none) K m↔c/\fg q K m:=by
 by_cases d:c;·simp[d]
 simp only[if_neg d,d,false_and,iff_false];rintro⟨v,e,_⟩;cases e
@[simp] def aaX(v:AV)(H:ab)(K:AV->ab->Prop)(m:Mk K):jF (some (v,H)) K m↔K v H:=
 ⟨λ⟨⟨w,_,hw,h⟩⟩=>by cases hw;exact h,λh=>⟨v,H,rfl,h⟩⟩
@[simp] def ade(c:Prop)[Decidable c](q:bU)(K:AV->ab->Prop)(m:Mk K):jF (if c then q else none) K m↔c/\jF q K m:=by
 by_cases d:c;·simp[d]
 simp only[if_neg d,d,false_and,iff_false];rintro⟨v,_,e,_⟩;cases e
def Nu{x:Option AV}{A B:Prop}{m:Mk (A,B)}:br x A B m↔brP x A B:=⟨λh=>h.h,λh=>⟨h⟩⟩
@[simp] def acK(A B:Prop)(m:Mk (A,B)):br (some (aB true)) A B m↔A:=Nu
@[simp] def abb(A B:Prop)(m:Mk (A,B)):br (some (aB false)) A B m↔B:=Nu
def Cy{b:Bool}{A B:Prop}{m:Mk (A,B)}(c:b=true->A)(d:b=false->B):br (some (aB b)) A B m:=by
 cases b;·exact⟨d rfl⟩
 exact⟨c rfl⟩
@[simp] def aaL(q:gu)(K:AV->Prop)(m:Mk (q,K)):gQ (aB true) true q K m↔fg q K:=⟨λh=>h.h,λh=>⟨h⟩⟩
@[simp] def aaO(q:gu)(K:AV->Prop)(m:Mk (q,K)):gQ (aB false) false q K m↔fg q K:=⟨λh=>h.h,λh=>⟨h⟩⟩
@[simp] def aaM(q:gu)(K:AV->Prop)(m:Mk (q,K)):gQ (aB true) false q K m↔K AV.undef:=⟨λh=>h.h,λh=>⟨h⟩⟩
@[simp] def aaN(q:gu)(K:AV->Prop)(m:Mk (q,K)):gQ (aB false) true q K m↔K AV.undef:=⟨λh=>h.h,λh=>⟨h⟩⟩
@[simp] def adx(w:Bool)(q:gu)(K:AV->Prop)(m:Mk (q,K)):gQ AV.undef w q K m↔K AV.undef:=⟨λh=>h.h,λh=>⟨h⟩⟩
@[simp] def aaH(H:ab)(q:bU)(K:AV->ab->Prop)(m:Mk (q,K)):gW (aB true) true H q K m↔jF q K:=⟨λh=>h.h,λh=>⟨h⟩⟩
@[simp] def aaK(H:ab)(q:bU)(K:AV->ab->Prop)(m:Mk (q,K)):gW (aB false) false H q K m↔jF q K:=⟨λh=>h.h,λh=>⟨h⟩⟩
@[simp] def aaI(H:ab)(q:bU)(K:AV->ab->Prop)(m:Mk (q,K)):gW (aB true) false H q K m↔K AV.undef H:=⟨λh=>h.h,λh=>⟨h⟩⟩
@[simp] def aaJ(H:ab)(q:bU)(K:AV->ab->Prop)(m:Mk (q,K)):gW (aB false) true H q K m↔K AV.undef H:=⟨λh=>h.h,λh=>⟨h⟩⟩
@[simp] def adw(w:Bool)(H:ab)(q:bU)(K:AV->ab->Prop)(m:Mk (q,K)):gW AV.undef w H q K m↔K AV.undef H:=⟨λh=>h.h,λh=>⟨h⟩⟩
@[simp] def Yh(v:AV):ik (some v)=some (v,[]):=id rfl
@[simp] def YE(H:ab)(r:Ref)(v:AV)(bs:List aP):kj H r (some (v,bs))=some (v,keyed r 0 bs H):=id rfl
@[simp] def BF(H:ab)(r:Ref):kj H r none=none:=id rfl
@[simp] def ace(H:ab)(r:Ref)(c:Prop)[Decidable c](q:gu):kj H r (if c then q else none)=if c then kj H r q else none:=by split<;>rfl
@[simp] def Xc(r:Ref)(k:Nat)(H:ab):keyed r k [] H=H:=id rfl
@[simp] def Xd(r:Ref)(k:Nat)(b:aP)(bs:List aP)(H:ab):keyed r k (b :: bs) H=keyed r (k+1) bs (({ r with k:=k},some b) :: H):=id rfl
@[simp] def Z2(c:Bool)(x:AV × ab)(b:bU):CT c (some x) b=some x:=id rfl
@[simp] def En(b:bU):CT true none b=b:=id rfl
@[simp] def WQ(a b:Option AV):yJ (some (aB true)) a b=ik a:=id rfl
@[simp] def Vp(a b:Option AV):yJ (some (aB false)) a b=ik b:=id rfl
@[simp] def ac0(k:IntKind)(n:Int):oi (.v (.int k n))=some (some n):=id rfl
@[simp] def Za(cs:List AV):(AV.agg cs).cells=cs:=id rfl
@[simp] def acD(x:Value):(AV.v x).cells=[.v x]:=id rfl
@[simp] def acE(x:UInt8):(a8 x).cells=[a8 x]:=id rfl
@[simp] def aa4(x:UInt32):(cH x).cells=[cH x]:=id rfl
@[simp] def Y8(z:Nat)(es:List AV)(c:Option Nat):(AV.cC z es c).cells=[.cC z es c]:=id rfl
@[simp] def Y7(r:Ref)(o n:Nat)(c:Option Nat):(AV.bO r o n c).cells=[.bO r o n c]:=id rfl
@[simp] def aa3(f:Fn)(a b:List AV):(AV.fn f a b).cells=[.fn f a b]:=id rfl
@[simp] def aca(k:IntKind)(n:Int):(AV.v (.int k n)).one=true:=id rfl
@[simp] def Z3(b:Bool):(AV.v (.bool b)).one=true:=id rfl
@[simp] def ab8:a9.one=true:=id rfl
@[simp] def adr(x:UInt8):(a8 x).one=true:=id rfl
@[simp] def acZ(x:UInt32):(cH x).one=true:=id rfl
@[simp] def ab9(z:Nat)(es:List AV)(c:Option Nat):(AV.cC z es c).one=true:=id rfl
@[simp] def ab7(r:Ref)(o n:Nat)(c:Option Nat):(AV.bO r o n c).one=true:=id rfl
section
variable(P:Program)(t:TypeId)(xo C:Operand)(k:IntKind)(a b:Int)
@[simp] theorem Q0:bE P .lss t xo C (some (.v (.int k a))) (some (.v (.int k b)))=some (aB (decide (a<b)),[]):=by cases k<;>rfl
@[simp] theorem Q1:bE P .leq t xo C (some (.v (.int k a))) (some (.v (.int k b)))=some (aB (decide (a<=b)),[]):=by cases k<;>rfl
@[simp] theorem Q2:bE P .gtr t xo C (some (.v (.int k a))) (some (.v (.int k b)))=some (aB (decide (b<a)),[]):=by cases k<;>rfl
@[simp] theorem Q3:bE P .geq t xo C (some (.v (.int k a))) (some (.v (.int k b)))=some (aB (decide (b<=a)),[]):=by cases k<;>rfl
@[simp] theorem Q4:bE P .eql t xo C (some (.v (.int k a))) (some (.v (.int k b)))=some (aB (decide (a=b)),[]):=by
 have:(a == b)=decide (a=b):=by by_cases h:a=b<;>simp[h]
 rw[<-this];cases k<;>rfl
@[simp] theorem QZ:bE P .neq t xo C (some (.v (.int k a))) (some (.v (.int k b)))=some (aB (!decide (a=b)),[]):=by
 have:(a != b) = !decide (a=b):=by by_cases h:a=b<;>simp[h]
 rw[<-this];cases k<;>rfl
@[simp] theorem ZZ:bE P .add t xo C (some (.v (.int k a))) (some (.v (.int k b)))=some (.v (.int k (k.wrap (a+b))),[]):=by cases k<;>rfl
@[simp] theorem ZX:bE P .sub t xo C (some (.v (.int k a))) (some (.v (.int k b)))=some (.v (.int k (k.wrap (a - b))),[]):=by cases k<;>rfl
@[simp] theorem ZY:bE P .mul t xo C (some (.v (.int k a))) (some (.v (.int k b)))=some (.v (.int k (k.wrap (a * b))),[]):=by cases k<;>rfl
theorem QY(d:b≠0):bE P .quo t xo C (some (.v (.int k a))) (some (.v (.int k b)))=some (.v (.int k (k.wrap (a.tdiv b))),[]):=by
 have h:Op.intDiv .quo k a b=pure (.int k (k.wrap (a.tdiv b))):=by unfold Op.intDiv;rw[if_neg d]
 have c:sN P .quo t xo C (.int k a) (.int k b)=some (.int k (k.wrap (a.tdiv b))):=by
  have:sN P .quo t xo C (.int k a) (.int k b)=bh P (Op.intDiv .quo k a b):=by cases k<;>rfl
  rw[this,h];rfl
 simp only[bE,CJ,jT,ir,c,tO,vY,hU,iQf,cR,fS,scalar,if_true,ik,Option.map_some]
theorem Ei(d:b≠0):bE P .rem t xo C (some (.v (.int k a))) (some (.v (.int k b)))=some (.v (.int k (a.tmod b)),[]):=by
 have h:Op.intDiv .rem k a b=pure (.int k (a.tmod b)):=by unfold Op.intDiv;rw[if_neg d]
 have c:sN P .rem t xo C (.int k a) (.int k b)=some (.int k (a.tmod b)):=by
  have:sN P .rem t xo C (.int k a) (.int k b)=bh P (Op.intDiv .rem k a b):=by cases k<;>rfl
  rw[this,h];rfl
 simp only[bE,CJ,jT,ir,c,tO,vY,hU,iQf,cR,fS,scalar,if_true,ik,Option.map_some]
theorem xt{yk:IntKind}(d:0<=b):bE P .shl t xo C (some (.v (.int k a))) (some (.v (.int yk b)))=some (.v (.int k (k.wrap (a * 2 ^ min b.toNat k.bits))),[]):=by
 have h:Op.shift .shl k a yk b=pure (.int k (k.wrap (a * 2 ^ min b.toNat k.bits))):=by unfold Op.shift;rw[if_neg (by omega)]
 have c:sN P .shl t xo C (.int k a) (.int yk b)=some (.int k (k.wrap (a * 2 ^ min b.toNat k.bits))):=by
  have:sN P .shl t xo C (.int k a) (.int yk b)=bh P (Op.shift .shl k a yk b):=rfl;rw[this,h];rfl
 simp only[bE,CJ,jT,ir,c,tO,vY,hU,iQf,cR,fS,scalar,if_true,ik,Option.map_some]
theorem gM{yk:IntKind}(d:0<=b):bE P .shr t xo C (some (.v (.int k a))) (some (.v (.int yk b)))=some (.v (.int k (a.fdiv (2 ^ min b.toNat k.bits))),[]):=by
 have h:Op.shift .shr k a yk b=pure (.int k (a.fdiv (2 ^ min b.toNat k.bits))):=by unfold Op.shift;rw[if_neg (by omega)]
 have c:sN P .shr t xo C (.int k a) (.int yk b)=some (.int k (a.fdiv (2 ^ min b.toNat k.bits))):=by
  have:sN P .shr t xo C (.int k a) (.int yk b)=bh P (Op.shift .shr k a yk b):=rfl;rw[this,h];rfl
 simp only[bE,CJ,jT,ir,c,tO,vY,hU,iQf,cR,fS,scalar,if_true,ik,Option.map_some]
@[simp] theorem ab1(b:Bool):Vm P .not (some (aB b))=some (aB (!b),[]):=id rfl
def u8(n:Int):UInt8:=UInt8.ofBitVec (BitVec.ofInt 8 n)
def u32(n:Int):UInt32:=UInt32.ofBitVec (BitVec.ofInt 32 n)
@[simp] theorem Zc(n:Int):IntKind.u8.wrap n=((u8 n).toNat:Int):=by
 unfold u8;rw[IntKind.wrap_u8,iQK,Dn];omega
@[simp] theorem CM(n:Int):IntKind.u32.wrap n=((u32 n).toNat:Int):=by
 unfold u32;rw[IntKind.wrap_u32,iQD,Dn];omega
theorem oy(n:Int):(u8 n).toNat=(n % 256).toNat:=by
 unfold u8;rw[iQK,Dn];rfl
theorem rS(n:Int):(u32 n).toNat=(n % 4294967296).toNat:=by
 unfold u32;rw[iQD,Dn];rfl
@[simp] theorem PT(x:UInt8):u8 (x.toNat:Int)=x:=by apply pr.1;rw[oy];have:=x.toNat_lt;omega
@[simp] theorem S7(x:UInt32):u32 (x.toNat:Int)=x:=by apply Kh.1;rw[rS];have:=x.toNat_lt;omega
@[simp] theorem PU(x:UInt8):u32 (x.toNat:Int)=x.toUInt32:=by apply Kh.1;rw[rS,UInt8.toNat_toUInt32];have:=x.toNat_lt;omega
@[simp] theorem Zj(x:UInt32):u8 (x.toNat:Int)=x.toUInt8:=by apply pr.1;rw[oy,UInt32.toNat_toUInt8];omega
@[simp] theorem acS(n:Nat):u8 (no_index (OfNat.ofNat n))=OfNat.ofNat n:=by
 apply pr.1;rw[oy,show(OfNat.ofNat n:UInt8)=UInt8.ofNat n from rfl,UInt8.toNat_ofNat',show(OfNat.ofNat n:Int)=(n:Int) from rfl];omega
@[simp] theorem aaG(x:UInt8):IntKind.i64.wrap (x.toNat:Int)=x.toNat:=by have:=x.toNat_lt;exact iQa _ (by omega)
@[simp] theorem Xo(x:UInt32):IntKind.i64.wrap (x.toNat:Int)=x.toNat:=by have:=x.toNat_lt;exact iQa _ (by omega)
theorem XN(v:BitVec 32):IntKind.u32.wrap (v.toNat:Int)=((UInt32.ofBitVec v).toNat:Int):=by
 rw[CM];unfold u32;congr 3;apply BitVec.eq_of_toNat_eq;rw[Dn];have:=v.isLt;omega
theorem XJ(d:BinOp)(f:BitVec 32->BitVec 32->BitVec 32)(g:UInt32->UInt32->UInt32)(e : ∀x y,g x y=UInt32.ofBitVec (f x.toBitVec y.toBitVec))(c : ∀x y:Int,bE P d t xo C (some (.v (.int .u32 x))) (some (.v (.int .u32 y)))=some (.v (.int .u32 (IntKind.u32.wrap ((f (BitVec.ofInt 32 x) (BitVec.ofInt 32 y)).toNat:Int))),[])) :
 bE P d t xo C (some (.v (.int .u32 a))) (some (.v (.int .u32 b)))=some (cH (g (u32 a) (u32 b)),[]):=by
 rw[c,XN,e];rfl
section
variable(x y:UInt8)
@[simp] theorem Yo:bE P .lss t xo C (some (a8 x)) (some (a8 y))=some (aB (decide (x<y)),[]):=by
 unfold a8;rw[Q0];congr 4;rw[iQE];all_goals exact propext (by omega)
@[simp] theorem Yp:bE P .leq t xo C (some (a8 x)) (some (a8 y))=some (aB (decide (x<=y)),[]):=by
 unfold a8;rw[Q1];congr 4;rw[GL];all_goals exact propext (by omega)
@[simp] theorem Yq:bE P .gtr t xo C (some (a8 x)) (some (a8 y))=some (aB (decide (y<x)),[]):=by
 unfold a8;rw[Q2];congr 4;rw[iQE];all_goals exact propext (by omega)
@[simp] theorem Yr:bE P .geq t xo C (some (a8 x)) (some (a8 y))=some (aB (decide (y<=x)),[]):=by
 unfold a8;rw[Q3];congr 4;rw[GL];all_goals exact propext (by omega)
@[simp] theorem Ys:bE P .eql t xo C (some (a8 x)) (some (a8 y))=some (aB (decide (x=y)),[]):=by
 unfold a8;rw[Q4];congr 4;rw[<-pr];all_goals exact propext (by omega)
@[simp] theorem Yn:bE P .neq t xo C (some (a8 x)) (some (a8 y))=some (aB (!decide (x=y)),[]):=by
 unfold a8;rw[QZ];congr 5;rw[<-pr];all_goals exact propext (by omega)
end
section
variable(x y:UInt32)
@[simp] theorem Ym:bE P .or t xo C (some (cH x)) (some (cH y))=some (cH (x ||| y),[]):=by
 unfold cH;rw[XJ P t xo C _ _ .or (· ||| ·) (· ||| ·) (λ_ _=>rfl) (λ_ _=>rfl)];simp only[S7];rfl
end
@[simp] theorem WL{yk:IntKind}(x:UInt32)(d:0<=b/\b<32):bE P .shl t xo C (some (cH x)) (some (.v (.int yk b)))=some (cH (x <<< UInt32.ofNat b.toNat),[]):=by
 unfold cH;rw[xt P t xo C .u32 _ b d.1,CM];congr 5;have e:min b.toNat IntKind.u32.bits=b.toNat:=by show min b.toNat 32=_;omega
 have f:=x.toNat_lt;rw[e,rS,GM,UInt32.toNat_ofNat',GG];have c:b.toNat % 2 ^ 32 % 32=b.toNat:=by omega
 rw[c];have:((x.toNat:Int) * 2 ^ b.toNat)=((x.toNat * 2 ^ b.toNat:Nat):Int):=by push_cast;rfl
 rw[this];omega
theorem mQ{P:Program}{t:TypeId}{d:TypeDesc}(h:P.underlying t=some d):bh P (Go.underlying t)=some d:=by
 unfold Go.underlying;rw[bJ];show(some P).bind _=_;rw[cR,h];rfl
def intKind(P:Program)(t:TypeId):Option IntKind:=match P.underlying t with | some (.int k)=>some k | _=>none
theorem Ay{P:Program}{t:TypeId}{k:IntKind}(h:intKind P t=some k):P.underlying t=some (.int k):=by
 unfold intKind at h;split at h;·cases h;assumption
 cases h
theorem oz{g:cb}{r:Ref}{src dst:TypeId}{k':IntKind}(c:(P.underlying src).isNone=false)(e:intKind P dst=some k)(n:Int) :
 bM P g r src dst (some (.v (.int k' n)))=some (.v (.int k (k.wrap n)),[]):=by
 have e:=Ay e;obtain⟨d,c⟩ : ∃d,P.underlying src=some d:=by cases h:P.underlying src with | none=>rw[h]at c;cases c | some d=>exact⟨d,rfl⟩
 have:bh P (Go.convert src dst (.int k' n))=some (.int k (k.wrap n)):=by
  unfold Go.convert;rw[bJ,mQ c,cR,bJ,mQ e,cR];cases d<;>rfl
 simp only[bM,this,cR,fS,scalar,if_true,ik,Option.map_some]
@[simp] theorem WI{g:cb}{r:Ref}{src dst:TypeId}(c:(P.underlying src).isNone=false)(d:intKind P dst=some .u32)(x:UInt8) :
 bM P g r src dst (some (a8 x))=some (cH x.toUInt32,[]):=by
 unfold a8 cH;rw[oz P .u32 c d,CM,PU]
@[simp] theorem Yl{g:cb}{r:Ref}{src dst:TypeId}(c:(P.underlying src).isNone=false)(d:intKind P dst=some .i64)(x:UInt8) :
 bM P g r src dst (some (a8 x))=some (aI x.toNat,[]):=by
 unfold a8;rw[oz P .i64 c d,aaG]
@[simp] theorem WJ{g:cb}{r:Ref}{src dst:TypeId}(c:(P.underlying src).isNone=false)(d:intKind P dst=some .i64)(x:UInt32) :
 bM P g r src dst (some (cH x))=some (aI x.toNat,[]):=by
 unfold cH;rw[oz P .i64 c d,Xo]
@[simp] theorem Yk{g:cb}{r:Ref}{src dst:TypeId}{k':IntKind}(c:(P.underlying src).isNone=false)(d:intKind P dst=some .u8)(n:Int) :
 bM P g r src dst (some (.v (.int k' n)))=some (a8 (u8 n),[]):=by
 unfold a8;rw[oz P .u8 c d,Zc]
@[simp] theorem WH{g:cb}{r:Ref}{src dst:TypeId}{k':IntKind}(c:(P.underlying src).isNone=false)(d:intKind P dst=some .u32)(n:Int) :
 bM P g r src dst (some (.v (.int k' n)))=some (cH (u32 n),[]):=by
 unfold cH;rw[oz P .u32 c d,CM]
@[simp] theorem Yj{g:cb}{r:Ref}{src dst:TypeId}{k':IntKind}(c:(P.underlying src).isNone=false)(d:intKind P dst=some .i64)(n:Int) :
 bM P g r src dst (some (.v (.int k' n)))=some (aI (IntKind.i64.wrap n),[]):=oz P .i64 c d n
end
def aQ(l:List UInt8):List AV:=l.map a8
@[simp] def fh(l:List UInt8):(aQ l).length=l.length:=by simp[aQ]
@[simp] def acF:aQ []=[]:=id rfl
def QS(P:Program)(d:Bool)(g:cb)(r:Ref)(t:TypeId)(e:List TypeId)(x:AV)(c : ∀r',x ≠ .mp r'):dX P d g r .len ⟨t :: e⟩ [x]=Fl P (some t) x:=by
 unfold dX;cases x<;>first | rfl | (rename_i q;exact(c q rfl).elim)
@[simp] def ab2(P:Program)(d:Bool)(g:cb)(r:Ref)(t:TypeId)(c:List TypeId)(x:AV)(f:(pz x).isSome=true):dX P d g r .len ⟨t :: c⟩ [x]=Fl P (some t) x:=by
 refine QS P d g r t c x λr' e=>?_;subst e;cases f
@[simp] def YG:pz a9=some 0:=id rfl
@[simp] def YH(n:Nat)(es:List AV)(c:Option Nat):pz (.cC n es c)=some es.length:=id rfl
@[simp] def YF(r:Ref)(o n:Nat)(c:Option Nat):pz (.bO r o n c)=some n:=id rfl
@[simp] def WC{P:Program}{t:TypeId}(d:lK P t=none)(c:isStr P t=false)(e:(de P t).isSome=true)(x:AV):Fl P (some t) x=(pz x).map λn=>(aI n,[]):=by
 simp only[Fl,d,c,e];rfl
def JM{P:Program}{t:TypeId}{z:Nat}(h:(de P t).bind (av P)=some z) : ∃e,de P t=some e/\av P e=some z:=by
 simpa [fH] using h
@[simp] def Eg{P:Program}{t:TypeId}{z:Nat}(h:(de P t).bind (av P)=some z)(g:cb)(es:List AV)(c:Option Nat)(f:IntKind)(k:Int) :
 bI P g t (some (.cC z es c)) (some (.v (.int f k)))=if 0<=k/\k<es.length then some (.iptr z es k.toNat 0,[]) else none:=by
 obtain⟨e,he,d⟩:=JM h;simp only[bI,cR,intOf,he,d,iQr]
@[simp] def QT{P:Program}{t:TypeId}(h:de P t=none)(c:((lK P t).bind λp=>av P p.2).isSome=true)(g:cb)(r:Ref)(i j:Nat)(d:IntKind)(k:Int) :
 bI P g t (some (.ptr r i j)) (some (.v (.int d k)))=if 0<=k/\k<((lK P t).getD (0,0)).1 then some (.ptr r i (j+k.toNat * (av P ((lK P t).getD (0,0)).2).getD 0),[]) else none:=by
 obtain⟨z,c⟩:=fP.1 c;simp only[fH]at c;obtain⟨⟨n,e⟩,f,c⟩:=c;simp only[bI,cR,intOf,h,f,c,dP]
@[simp] def WB{P:Program}{t:TypeId}(d:(eD P t).isSome=true)(c:(av P t).isSome=true)(g:cb)(z:Nat)(es:List AV)(i j:Nat) :
 mP P g t (some (.iptr z es i j))=ik (dQ es i j ((av P t).getD 0) ((eD P t).getD false)):=by
 obtain⟨a,d⟩:=fP.1 d;obtain⟨n,c⟩:=fP.1 c;simp only[mP,d,c,dP]
def RA(x:Option aP)(i j n:Nat)(c:Bool):gu:=match x with
 | some b=>ik (dQ b.es i j n c)
 | none=>none
@[simp] def W2(b:aP)(i j n:Nat)(c:Bool):RA (some b) i j n c=ik (dQ b.es i j n c):=id rfl
@[simp] def Yi{P:Program}{t:TypeId}(d:(eD P t).isSome=true)(c:(av P t).isSome=true)(g:cb)(r:Ref)(i j:Nat) :
 mP P g t (some (.ptr r i j))=RA (g r) i j ((av P t).getD 0) ((eD P t).getD false):=by
 obtain⟨a,d⟩:=fP.1 d;obtain⟨n,c⟩:=fP.1 c;simp only[mP,d,c,dP];rfl
def Ec{es:List AV}{i j n:Nat}{e x:AV}(h:es[i]?=some e)(c:e.cells[j]?=some x):dQ es i j n false=some x:=by
 simp only[dQ,h,c];rfl
def K1{es:List AV}{i j n:Nat}{e:AV}(h:es[i]?=some e)(c:j+n<=e.cells.length/\0<n):dQ es i j n true=some (.agg ((e.cells.drop j).take n)):=by
 simp only[dQ,h,if_true,if_pos c]
@[simp] def Pr(e:AV)(es:List AV)(j n:Nat):dQ (e :: es) 0 j n true=if j+n<=e.cells.length/\0<n then some (.agg ((e.cells.drop j).take n)) else none:=id rfl
@[simp] def Pq(e:AV)(es:List AV)(j n:Nat):dQ (e :: es) 0 j n false=e.cells[j]?:=id rfl
@[simp] def Wx(l:List UInt8)(i n:Nat):dQ (aQ l) i 0 n false=(l[i]?).map a8:=by
 unfold dQ aQ;rw[lJ];cases l[i]?<;>rfl
def Sl(z:Nat)(es:List AV)(x:AV):Prop:=(x=a9/\es=[]) \/∃c,x = .cC z es c/\es.length<=c.getD es.length
def Sl.mk(z:Nat)(es:List AV):Sl z es (.cC z es none) := .inr ⟨none,rfl,aV _⟩
def Sl.len{z:Nat}{es:List AV}{x:AV}(h:Sl z es x):pz x=some es.length:=by
 rcases h with ⟨rfl,rfl⟩ | ⟨c,rfl,_⟩<;>rfl
def Sl.cC{z:Nat}{es:List AV}{x:AV}(h:Sl z es x){i:Nat}(hi:i<es.length) : ∃c,x = .cC z es c/\es.length<=c.getD es.length:=by
 rcases h with ⟨rfl,rfl⟩ | h
 ·simp at hi
 exact h
def Sl.view{z:Nat}{es:List AV}{x:AV}(h:Sl z es x)(g:cb)(n:Nat):view g (n+1) x=some x:=by
 rcases h with ⟨rfl,rfl⟩ | ⟨c,rfl,_⟩<;>rfl
def Sl.refs{z:Nat}{es:List AV}{x:AV}(h:Sl z es x)(g:cb)(n:Nat):ad g n x=[]:=by
 rcases h with ⟨rfl,rfl⟩ | ⟨c,rfl,_⟩<;>cases n<;>rfl
def Sl.imp{z:Nat}{es:List AV}{x:AV}(h:Sl z es x)(r:Ref)(n:Nat):ae r n x []=(x,[]):=by
 rcases h with ⟨rfl,rfl⟩ | ⟨c,rfl,_⟩<;>cases n<;>rfl
def Sl.cells{z:Nat}{es:List AV}{x:AV}(h:Sl z es x):x.cells=[x]/\x.one=true:=by
 rcases h with ⟨rfl,_⟩ | ⟨c,rfl,_⟩<;>exact⟨rfl,rfl⟩
@[simp] def acN(g:cb)(n:Nat)(x:Value):view g (n+1) (.v x)=some (.v x):=id rfl
@[simp] def acO(g:cb)(n:Nat)(x:UInt8):view g (n+1) (a8 x)=some (a8 x):=id rfl
@[simp] def abn(g:cb)(n:Nat)(x:UInt32):view g (n+1) (cH x)=some (cH x):=id rfl
@[simp] def Ze(g:cb)(n z:Nat)(es:List AV)(c:Option Nat):view g (n+1) (.cC z es c)=some (.cC z es c):=id rfl
@[simp] def Zf(g:cb)(n:Nat)(cs:List AV):view g (n+1) (.agg cs)=(cs.mapM (view g n)).map .agg:=id rfl
@[simp] def Zd(g:cb)(n:Nat)(cs:List AV):view g (n+1) (.tup cs)=(cs.mapM (view g n)).map .tup:=id rfl
@[simp] def X4(g:cb)(n z:Nat)(es:List AV)(i j:Nat):view g (n+1) (.iptr z es i j)=some (.iptr z es i j):=id rfl
def DH{g:cb}{r:Ref}{b:aP}(d:g r=some b)(n o l:Nat)(c:Option Nat):view g (n+1) (.bO r o l c)=if b.arr=true/\o+l<=b.es.length then some (.cC b.esz ((b.es.drop o).take l) c) else none:=by
 simp only[view,d]
def a7:depth=8:=Nat.le_antisymm (aV 8) (aV 8)
end
section
@[simp] def ab.aZ(r q:Ref)(b:Option aP)(H:ab):ab.get ((r,b) :: H) q=if r=q then b else ab.get H q:=id rfl
@[simp] def ab.get_nil(q:Ref):ab.get [] q=none:=id rfl
attribute [simp] ab.get_put
@[simp] def ab3(P:Program)(r:Ref)(e:TypeId)(x:AV)(c:0<(av P e).getD 0):Fp P r e (some x)=if some x.cells.length=av P e/\x.cells.all AV.one=true then some (.ptr r 0 0,[⟨(av P e).getD 0,[x],false,false⟩]) else none:=by
 unfold Fp;cases h:av P e with
 | none=>simp
 | some n=>rw[h]at c;simp only[dP]at c;simp[c]
def Fr(H:ab):Prop :=∀d t g k,H.gen d t<=g->H.get ⟨d,t,g,k⟩=none
def Fr.nil:Fr []:=λ_ _ _ _ _=>rfl
def Fr.keyed{H:ab}(h:Fr H)(bs:List aP)(d t:Nat):Fr (Ab.keyed ⟨d,t,H.gen d t,0⟩ 0 bs H):=by
 intro j t' g k c;rw[ab.kG]at c;rw[ab.yj];by_cases i:bs=[];·subst i;rw[if_neg (by simp)]at c;simp[h _ _ _ _ c]
 by_cases f:j=d/\t'=t;·obtain⟨rfl,rfl⟩:=f;rw[if_pos ⟨rfl,rfl,i⟩]at c;dsimp only at c ⊢;rw[if_neg (by intro e;have:=e.2.2.1;omega)];exact h _ _ _ _ (by omega)
 rw[if_neg (by intro e;exact f ⟨e.1,e.2.1⟩)]at c;dsimp only at c ⊢;rw[if_neg (by intro e;exact f ⟨e.1,e.2.1⟩)];exact h _ _ _ _ c
def Fr.put{H:ab}(h:Fr H){r:Ref}(b:Option aP)(c:(H.get r).isSome=true):Fr (H.put r b):=by
 intro d t g k f;rw[ab.fB H r b c]at f;rw[ab.get_put];split;·rename_i e;subst e;rw[h _ _ _ _ f]at c;cases c
 exact h _ _ _ _ f
def Fr.cons{H:ab}(h:Fr H)(d t:Nat)(b:Option aP):Fr ((⟨d,t,H.gen d t,0⟩,b) :: H):=by
 intro l t' g k c;simp only[ab.gen]at c;rw[ab.aZ];split at c;·rename_i e;obtain⟨rfl,rfl⟩:=e;rw[if_neg (by intro e;injection e;omega)];exact h _ _ _ _ (by omega)
 rename_i e;rw[if_neg (by intro j;injection j with i f;exact e ⟨i,f⟩)];exact h _ _ _ _ c
def b8{H:ab}(c:Fr H){q:Ref}(h:(H.get q).isSome=true)(d t k:Nat):(⟨d,t,H.gen d t,k⟩:Ref)≠q:=by
 intro e;subst e;rw[c _ _ _ _ (aV _)]at h;cases h
def Nj(P:Program)(t z by':Nat):Bool:=match de P t with
 | some e=>av P e == some z&&lg P e == some by'&&(match eJ P e with | some zz=>zz.cells.length == z&&zz.cells.all AV.one | none=>false)&&z != 0&&by' != 0
 | none=>false
def E1(P:Program)(t:TypeId):Bool:=(P.underlying t).isSome && !isInt P t
def fx{P:Program}{t z by':Nat}(h:Nj P t z by'=true) : ∃e zz,de P t=some e/\av P e=some z/\lg P e=some by'/\eJ P e=some zz/\zz.cells.length=z/\zz.cells.all AV.one=true/\z≠0/\by'≠0:=by
 unfold Nj at h;split at h
 ·rename_i e l;simp only[bD,iQk,bne_iff_ne]at h;obtain⟨⟨⟨⟨f,j⟩,c⟩,d⟩,i⟩:=h;split at c;·rename_i zz g;simp only[bD,iQk]at c;exact⟨e,zz,l,f,j,g,c.1,c.2,d,i⟩
  cases c
 cases h
def Pp(g:cb)(z:Nat)(new:List AV)(x:AV):Prop:=(x=a9/\new=[])\/(isNum x=false/\x≠a9/\cr g x=some (z,new))
def Pp.lN{P:Program}{t z by':Nat}(h:Nj P t z by'=true){e:TypeId}(j:de P t=some e){g:cb}{new:List AV}{x:AV}(c:Pp g z new x):lN P g e x=some (z,new):=by
 obtain⟨p,zz,f,l,q,v,A,m,n,w⟩:=fx h;rw[j]at f;cases f;rcases c with ⟨rfl,rfl⟩ | ⟨i,d,c⟩
 ·simp only[Ab.lN,l,Option.map_some]
 unfold Ab.lN;split;·exact(d rfl).elim
 ·simp[isNum]at i
 exact c
def Pp.num{g:cb}{z:Nat}{new:List AV}{x:AV}(c:Pp g z new x):isNum x=false:=by
 rcases c with ⟨rfl,_⟩ | ⟨d,_⟩
 ·rfl
 exact d
def Sl.Fa{z:Nat}{es:List AV}{x:AV}(h:Sl z es x)(g:cb):Pp g z es x:=by
 rcases h with ⟨rfl,rfl⟩ | ⟨c,rfl,_⟩
 ·exact .inl ⟨rfl,rfl⟩
 exact .inr ⟨rfl,(by intro e;cases e),rfl⟩
def Own(z:Nat)(es:List AV)(H:ab)(x:AV):Prop:=(x=a9/\es=[]) \/∃r,x = .bO r 0 es.length none/\H.get r=some ⟨z,es,true,false⟩
def Ae(z:Nat)(H:ab):Own z [] H a9 := .inl ⟨rfl,rfl⟩
def Own.len{z:Nat}{es:List AV}{H:ab}{x:AV}(h:Own z es H x):pz x=some es.length:=by
 rcases h with ⟨rfl,rfl⟩ | ⟨r,rfl,_⟩<;>rfl
def Own.view{z:Nat}{es:List AV}{H:ab}{x:AV}(h:Own z es H x)(n:Nat) : ∃y,view H.get (n+1) x=some y/\Sl z es y:=by
 rcases h with ⟨rfl,rfl⟩ | ⟨r,rfl,c⟩
 ·exact⟨a9,rfl,.inl ⟨rfl,rfl⟩⟩
 refine⟨.cC z es none,?_,Sl.mk z es⟩;rw[DH c];simp
def Own.Fa{z:Nat}{es:List AV}{H:ab}{x:AV}(h:Own z es H x):Pp H.get z es x:=by
 rcases h with ⟨rfl,rfl⟩ | ⟨r,rfl,c⟩
 ·exact .inl ⟨rfl,rfl⟩
 refine .inr ⟨rfl,(by intro e;cases e),?_⟩;simp[cr,c]
def AV.at?:AV->Option Ref
 | .bO r _ _ _=>some r
 | .ptr r _ _=>some r
 | _=>none
def UN{P:Program}{t t' z by':Nat}(V:Nj P t z by'=true)(v:E1 P t'=true){H:ab}{r:Ref}{es new:List AV}{s x:AV}(W:Own z es H s)(J:Pp H.get z new x)
 (M:(es.length+new.length) * by'<=aY) (m:Fr H) (X : ∃d t,r=⟨d,t,H.gen d t,0⟩) :
 ∃L H',dK P true H r (some t) (some t') s x=some (L,H')/\Own z (es++new) H' L/\Fr H' /\∀q b,H.get q=some b->s.at?≠some q->H'.get q=some b/\L.at?≠some q:=by
 obtain⟨e,zz,p,G,w,B,U,Y,R,T⟩:=fx V;have c:=J.lN V p;unfold E1 at v;simp only[bD,jH]at v;have N:(P.underlying t').isNone=false:=by cases h:P.underlying t' with | none=>rw[h]at v;simp at v | some d=>rfl
 have D : ¬((P.underlying t').isNone=true\/isInt P t'≠isNum x):=by
  rw[N,v.2,J.num];simp
 have K : ¬(z≠z\/z=0\/by'=0\/zz.cells.length≠z):=by simp[U,R,T]
 obtain⟨j,l,rfl⟩:=X;rcases W with ⟨rfl,rfl⟩ | ⟨q,rfl,g⟩
 ·by_cases n:new=[];·subst n;refine⟨a9,H,?_,Ae z H,m,λq b g _=>⟨g,by simp[AV.at?]⟩⟩;simp only[dK,dY,cR,p,Option.map_some,dP,if_neg D,G,w,B,c,if_neg K,if_true];rfl
  refine⟨.bO ⟨j,l,H.gen j l,0⟩ 0 new.length none,(⟨j,l,H.gen j l,0⟩,some ⟨z,new,true,false⟩) :: H,?_,.inr ⟨⟨j,l,H.gen j l,0⟩,by simp,by simp⟩,m.cons j l _,λq b g _=>?_⟩;·simp only[oq,qZ]at M;simp only[dK,dY,cR,p,Option.map_some,dP,if_neg D,G,w,B,c,if_neg K,if_neg n,if_pos M];rfl
  have f:=b8 m (q:=q) (by rw[g];rfl) j l 0;rw[ab.aZ,if_neg f];exact⟨g,by intro e;simp only[AV.at?,du]at e;exact f e⟩
 by_cases n:new=[];·subst n;refine⟨.bO q 0 es.length none,H,?_,.inr ⟨q,by simp,by simpa using g⟩,m,λq b g f=>⟨g,f⟩⟩;simp only[dK,dY,cR,p,Option.map_some,dP,if_neg D,G,w,B,c,if_neg K,g,if_true];simp
 have O : ¬(z≠z\/z=0\/by'=0\/new=[]\/zz.cells.length≠z):=(by simp[U,R,T,n]);have F:(H.get q).isSome=true:=by rw[g];rfl
 have A:H.gen q.d q.t=(H.put q none).gen q.d q.t:=(ab.fB H q none F _ _).symm;refine⟨.bO ⟨q.d,q.t,H.gen q.d q.t,0⟩ 0 (es.length+new.length) none,(⟨q.d,q.t,H.gen q.d q.t,0⟩,some ⟨z,es++new,true,false⟩) :: H.put q none,?_,.inr ⟨⟨q.d,q.t,H.gen q.d q.t,0⟩,by simp,by simp⟩,?_,λS b I f=>?_⟩;·have Q:dY P H.get ⟨j,l,H.gen j l,0⟩ (some t) (some t') (.bO q 0 es.length none) x=none:=(by simp only[dY,cR,p,Option.map_some,dP,if_neg D,G,w,B,c,if_neg K,g,if_neg n];simp);simp only[dK,Q,BF,En];simp only[iH,cR,p,Option.map_some,dP,if_neg D,G,w,B,c,if_neg O,g,M,and_self,if_true,iQs]
 ·rw[A];exact(m.put none F).cons _ _ _
 have J:S≠q:=by intro e;subst e;exact f rfl
 have i:=b8 m (q:=S) (by rw[I];rfl) q.d q.t 0;rw[ab.aZ,if_neg i,ab.get_put,if_neg J];exact⟨I,by intro e;simp only[AV.at?,du]at e;exact i e⟩
def Own.bO{z:Nat}{es:List AV}{H:ab}{x:AV}(h:Own z es H x)(c:es≠[]) : ∃r,x = .bO r 0 es.length none/\H.get r=some ⟨z,es,true,false⟩:=by
 rcases h with ⟨_,rfl⟩ | h
 ·exact(c rfl).elim
 exact h
end
end Go.Ab
