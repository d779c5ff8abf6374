/-
  Regions where stores, and what looks at memory at one place, come in any order. No statement of a seat is proved here.
-/
import Derived.ReadAgain
import Derived.OpenShut
import Derived.ChangeSame
import Derived.RowKit
import Derived.JoinedOf
import Derived.Test.YtiidajnodhkidaaGreatAbsDrawn
set_option linter.unusedVariables false
set_option linter.unusedSimpArgs false
set_option linter.unusedSectionVars false
set_option linter.unnecessarySimpa false
set_option linter.defProp false
namespace Go.Ab
section
structure adK (E:Env) (ops:Array Oper):Prop extends RegB ops where
 made : ∀(i:Nat)(o:Oper),ops[i]?=some o->cls E o=3->o.dst.isSome=true
 stay : ∀(i:Nat)(o:Oper),ops[i]?=some o->cls E o≠0->cls E o≠3->rk E o=false ->∃t,nO E o=some t /\∀k,j2 ops k=some t->k<i
 must : ∀(i j:Nat)(oi oj:Oper),ops[i]?=some oi->ops[j]?=some oj->j<i->rE E oi oj=true->((eG ops.toList []).getD i 0).testBit j=true
 meet : ∀(i j:Nat)(oi oj:Oper),ops[i]?=some oi->ops[j]?=some oj->j<i->DT (cls E oi) (cls E oj)=true->rk E oi=false->rk E oj=false->((eG ops.toList []).getD i 0).testBit j=true\/settled E ops oi oj=true
def Fj(E:Env)(o:Oper):cls E o<=4:=by unfold cls;(repeat' split)<;>omega
def Zl{E:Env}{ops:Array Oper}(h:Wm E ops=true):adK E ops:=by
 unfold Wm at h;rw[bI]at h;replace h:=h.2;simp only[gP,xZ]at h;have one : ∀(i:Nat)(o:Oper),ops[i]?=some o->(gf o).all (· < i)=true/\Rw E ops i o=true /\∀(j:Nat)(a:Oper),j<i->ops[j]?=some a->P3 E ops (eG ops.toList []) o a i j=true:=by
  intro i o e;have hi:i<ops.size:=(jx.1 e).1;have:=h i hi;rw[e]at this;simp only[bI,gP,xZ]at this;refine⟨by simpa using this.1.1,this.1.2,λj a d l=>?_⟩;have q:=this.2 j d;rw[l]at q;exact q
 have c : ∀(i j:Nat)(oi a:Oper),ops[i]?=some oi->ops[j]?=some a->j<i->ze ops (eG ops.toList []) oi a i j=true /\
  (!rE E oi a||((eG ops.toList []).getD i 0).testBit j)=true/\(!DT (cls E oi) (cls E a)||rk E oi||rk E a||((eG ops.toList []).getD i 0).testBit j||settled E ops oi a)=true:=by
  intro i j oi a hi d b;have:=(one i oi hi).2.2 j a b d;unfold P3 at this;rw[bI,bI]at this;exact⟨this.1.1,this.1.2,this.2⟩
 refine⟨RZ (λi o e=>(one i o e).1) λi j oi a hi d b=>(c i j oi a hi d b).1,?_,?_,?_,?_⟩;·intro i o e z;have:=(one i o e).2.1;unfold Rw at this;rw[z]at this;exact this
 ·intro i o e v u n;have:=(one i o e).2.1;unfold Rw at this;have f:Pl ops i (nO E o)=true:=by
   split at this;·exact absurd (by assumption) v
   ·exact absurd (by assumption) u
   rw[n,Cc]at this;exact this
  unfold Pl at f;split at f
  ·rename_i t y;refine⟨t,y,λk g=>?_⟩;simp only[gP,xZ]at f;have p:k<ops.size:=by
    unfold j2 at g;cases s:ops[k]? with
    | none=>rw[s]at g;cases g
    | some x=>exact(jx.1 s).1
   have:=f k p;rw[g]at this;simpa using this
  cases f
 ·intro i j oi a hi d b m;have:=(c i j oi a hi d b).2.1;rw[m]at this;simpa using this
 intro i j oi a hi d b m r1 r2;have:=(c i j oi a hi d b).2.2;rw[m,r1,r2]at this;simpa using this
def Made(H a:aa)(q:Ref):Prop:=H.gen q.d q.t<=q.g/\q.g<a.gen q.d q.t
structure zi (H H':aa):Prop where
 gen : ∀d t,H.gen d t<=H'.gen d t
 born : ∀q,H'.get q≠none->H.get q≠none\/Made H H' q
 arr : ∀q b b',H.get q=some b->q.g<H.gen q.d q.t->H'.get q=some b'->b'.arr=b.arr
def zi.refl(H:aa):zi H H:=⟨λ_ _=>bM _,λ_ h => .inl h,λq b c h _ a=>by rw[h]at a;cases a;rfl⟩
def zi.keyed(H:aa)(d t:Nat)(bs:List bC):zi H (keyed ⟨d,t,H.gen d t,0⟩ 0 bs H):=by
 refine⟨λn t'=>?_,λq h=>?_,λq b m h l a=>?_⟩
 ·rw[aa.nj];split;·rename_i c;obtain⟨rfl,rfl,_⟩:=c;exact Et _
  exact bM _
 ·rw[aa.n8]at h;unfold tV at h;split at h
  ·rename_i c;obtain⟨j,g,f,k⟩:=c;refine .inr ⟨?_,?_⟩;·rw[j,g,f];exact bM _
   rw[aa.nj,if_pos ⟨j,g,by intro e;rw[e]at k;simp at k⟩,f];exact sg _
  exact .inl h
 rw[aa.n8]at a;unfold tV at a;split at a;·rename_i c;obtain⟨j,g,f,k⟩:=c;rw[j,g,f]at l;exact absurd l (Cd _)
 rw[h]at a;cases a;rfl
def LY{g:dv}{R:List Ref}{q:Ref}{b c:bC}(h:g q=some b)(a:uY g R q=some c):c.arr=b.arr:=by
 unfold uY at a;split at a;·rw[h]at a;simp at a;rw[<-a]
 rw[h]at a;cases a;rfl
def II{g:dv}{R:List Ref}{q:Ref}:uY g R q≠none->g q≠none:=by
 unfold uY;split;·intro h e;rw[e]at h;exact h rfl
 exact id
def zi.put{H:aa}{R:List Ref}{r:Ref}{b:bC}{es:List AV}(c:(cL H R).get r=some b):zi H ((cL H R).put r (some { b with es})):=by
 refine⟨λd t=>?_,λq h=>?_,λq b1 f h g a=>?_⟩;·rw[aa.jo _ _ _ (by rw[c];rfl),aa.je];exact bM _
 ·rw[aa.ad]at h;split at h;·rename_i e;subst e;exact .inl (II (R:=R) (by rw[<-aa.dX,c];simp))
  exact .inl (II (R:=R) (by rw[<-aa.dX];exact h))
 rw[aa.ad]at a;split at a;·rename_i e;subst e;cases a;rw[aa.dX]at c;exact(LY h c:b.arr=b1.arr)
 rw[aa.dX]at a;exact LY h a
def Mx{P:Program}{H e:aa}{t:TypeId}{a x:Option AV}{y:AV}(h:kn P H t a x=some (y,e)):zi H e:=by
 unfold kn at h;split at h
 ·split at h
  ·rename_i r' i j q n _ b f;obtain⟨⟨m,l,k⟩,h⟩:=fP.1 h;split at h
   ·split at h
    ·rename_i s g;split at h;·cases h
     rename_i c;obtain⟨p,h⟩:=fP.1 h;simp only[bU]at h;obtain⟨es',d,h⟩:=h;cases h;exact zi.put (by rw[aa.dX];unfold uY;rw[if_neg c];exact f)
    cases h
   simp only[bU]at h;obtain⟨es',d,h⟩:=h;cases h;exact zi.put (R:=[]) f
  cases h
 cases h
def Ci{P:Program}{H c:aa}{t t':Option TypeId}{s x y:AV}(h:kG P H t t' s x=some (y,c)) :
 ∃r b z es f,lT s=some r/\H.get r=some b/\b.arr=true/\c=(⟨r.d,r.t,H.gen r.d r.t,0⟩,some ⟨z,es,true,f⟩) :: H.put r none:=by
 unfold kG at h;split at h;·cases h
 split at h;·cases h
 split at h
 ·split at h;·cases h
  split at h
  ·split at h;·rename_i r' e len b g;obtain⟨⟨_,a,_⟩,h⟩:=fP.1 h;cases h;exact⟨_,b,_,_,_,rfl,g,a,rfl⟩
   cases h
  cases h
 cases h
def Mg{H:aa}{r:Ref}{o:Option bC}(q:Ref):aa.get ((⟨r.d,r.t,H.gen r.d r.t,0⟩,o) :: H.put r none) q=if (⟨r.d,r.t,H.gen r.d r.t,0⟩:Ref)=q then o else if q=r then none else H.get q:=by
 simp only[aa.get,aa.ad]
def Mh{H:aa}{r:Ref}{o:Option bC}(a:(H.get r).isSome=true)(d t:Nat):aa.gen ((⟨r.d,r.t,H.gen r.d r.t,0⟩,o) :: H.put r none) d t=if r.d=d/\r.t=t then H.gen d t+1 else H.gen d t:=by
 simp only[aa.gen];rw[aa.jo _ _ _ a];split;·rename_i h;rw[h.1,h.2]
 rfl
def Lf{P:Program}{H j:aa}{t t':Option TypeId}{s x y:AV}(h:kG P H t t' s x=some (y,j)):zi H j /\∃r,lT s=some r /\∀q,j.get q≠H.get q->Made H j q\/q=r:=by
 obtain⟨r,b,z,es,f,n,m,l,rfl⟩:=Ci h;have k:(H.get r).isSome=true:=by rw[m];rfl
 have a : ∀q,(⟨r.d,r.t,H.gen r.d r.t,0⟩:Ref)=q->Made H ((⟨r.d,r.t,H.gen r.d r.t,0⟩,some ⟨z,es,true,f⟩) :: H.put r none) q:=by
  intro q e;subst e;refine⟨bM _,?_⟩;rw[Mh k,if_pos ⟨rfl,rfl⟩];exact sg _
 refine⟨⟨λd t=>?_,λq c=>?_,λq b1 v u p g=>?_⟩,r,n,λq c=>?_⟩;·rw[Mh k];split<;>omega
 ·rw[Mg]at c;split at c;·rename_i e;exact .inr (a q e)
  split at c;·exact absurd rfl c
  exact .inl c
 ·rw[Mg]at g;split at g;·rename_i e;subst e;exact absurd p (Cd _)
  split at g;·cases g
  rw[u]at g;cases g;rfl
 rw[Mg]at c;split at c;·rename_i e;exact .inl (a q e)
 split at c;·rename_i e;exact .inr e
 exact absurd rfl c
def Seen(g a:dv)(v:AV):Prop :=∀q,lT v=some q->g q≠none->a q=g q
def wX{g c:dv}{v:AV}(h:Seen g c v){q:Ref}(d:lT v=some q){b:bC}(a:g q=some b):c q=some b:=by rw[h q d (by rw[a];simp),a]
def Ih{P:Program}{g e:dv}{t:TypeId}{v x:AV}{bs:List bC}(h:oT P g t (some v)=some (x,bs))(f:Seen g e v):bs=[]/\oT P e t (some v)=some (x,bs):=by
 unfold oT at h ⊢;cases v<;>(try (simp at h;done))
 ·rename_i r i j;cases d:fK P t<;>cases a:aV P t<;>rw[d,a]at h<;>(try (simp at h;done));simp only at h ⊢;cases c:g r with
  | none=>rw[c]at h;simp at h
  | some b=>rw[c]at h;rw[wX f rfl c];exact⟨(sq h).2,h⟩
 cases d:fK P t<;>cases a:aV P t<;>rw[d,a]at h<;>(try (simp at h;done));exact⟨(sq h).2,h⟩
def An{P:Program}{g l:dv}{t:TypeId}{v x:AV}{f:Option AV}{bs:List bC}(h:cb P g t (some v) f=some (x,bs))(n:Seen g l v):bs=[]/\cb P l t (some v) f=some (x,bs):=by
 unfold cb at h ⊢;cases m:f.bind uJ with
 | none=>rw[m]at h;simp at h
 | some k=>
 rw[m]at h;simp only at h ⊢;cases he:eK P t with
 | some e=>
  rw[he]at h;simp only at h ⊢;cases c:aV P e with
  | none=>rw[c]at h;cases v<;>simp at h
  | some z=>
  rw[c]at h;cases v<;>(try (simp at h;done));·simp only at h ⊢;exact⟨by obtain⟨_,h⟩:=fP.1 h;cases h;rfl,h⟩
  ·rename_i r d len cap;simp only at h ⊢;cases a:g r with
   | none=>rw[a]at h;simp at h
   | some b=>rw[a]at h;rw[wX n rfl a];exact⟨by obtain⟨_,h⟩:=fP.1 h;cases h;rfl,h⟩
  rename_i r d len cap;simp only at h ⊢;cases a:g r with
  | none=>rw[a]at h;simp at h
  | some b=>rw[a]at h;rw[wX n rfl a];exact⟨by obtain⟨_,h⟩:=fP.1 h;cases h;rfl,h⟩
 | none=>
  rw[he]at h;simp only at h ⊢;refine⟨?_,h⟩;cases j:mf P t with
  | none=>rw[j]at h;simp at h
  | some p=>
  rw[j]at h;cases c:aV P p.2 with
  | none=>simp only[c]at h;cases v<;>simp at h
  | some z=>
  simp only[c]at h;cases v<;>(try (simp at h;done));·obtain⟨_,h⟩:=fP.1 h;cases h;rfl
  obtain⟨_,h⟩:=fP.1 h;cases h;rfl
def FH{P:Program}{g k:dv}{t:TypeId}{v x:AV}{lo hi j:Option (Option Int)}{bs:List bC}(h:dx P g t (some v) lo hi j=some (x,bs))(l:Seen g k v):bs=[]/\dx P k t (some v) lo hi j=some (x,bs):=by
 have nil : ∀ {c:Prop} [Decidable c] {o:Option (Nat × Nat × Option Nat)} {f:Nat × Nat × Option Nat->AV × List bC},(∀p,(f p).2=[])->(if c then o.map f else none)=some (x,bs)->bs=[]:=by
  intro c _ o f m h;obtain⟨_,h⟩:=fP.1 h;obtain⟨p,_,h⟩:=bU.1 h;have:=m p;rw[h]at this;exact this
 unfold dx at h ⊢;cases lo<;>cases hi<;>cases j<;>(try (simp at h;done));simp only at h ⊢;cases v<;>(try (simp at h;done))
 ·rename_i y;cases y<;>(try (simp at h;done));·simp only at h ⊢;exact⟨nil (λ_=>rfl) h,h⟩
  split at h;·rename_i e;simp only[eS,AV.v.injEq,Value.slice.injEq]at e;obtain⟨rfl,rfl,rfl⟩:=e;exact⟨nil (λ_=>rfl) h,h⟩
  ·rename_i e;simp at e
  ·rename_i e;simp at e
  ·rename_i e;simp at e
  ·rename_i e;simp at e
  cases h
 ·simp only at h ⊢;exact⟨nil (λ_=>rfl) h,h⟩
 ·rename_i r d len cap;simp only at h ⊢;cases a:g r with
  | none=>rw[a]at h;simp at h
  | some b=>rw[a]at h;rw[wX l rfl a];exact⟨nil (λ_=>rfl) h,h⟩
 rename_i r d len cap;simp only at h ⊢;cases a:g r with
 | none=>rw[a]at h;simp at h
 | some b=>rw[a]at h;rw[wX l rfl a];exact⟨nil (λ_=>rfl) h,h⟩
def L2{g c:dv}{v:AV}{p:Nat × List AV}(h:dt g v=some p)(e:Seen g c v):dt c v=some p:=by
 unfold dt at h ⊢;cases v<;>(try (simp at h;done));·rename_i y;cases y<;>first | exact h | (simp at h;done)
 ·exact h
 rename_i r d len cap;simp only at h ⊢;cases a:g r with
 | none=>rw[a]at h;simp at h
 | some b=>rw[a]at h;rw[wX e rfl a];exact h
def Cq{P:Program}{g f:dv}{r r':Ref}{src dst:TypeId}{v x:AV}{bs:List bC}(hd:eE P dst=false)(h:cE P g r src dst (some v)=some (x,bs))(k:Seen g f v) :
 bs=[]/\cE P f r' src dst (some v)=some (x,bs):=by
 have other : ∀ {y:AV},y=v->(if eE P src&&isStr P dst then
  match dt g y with
  | some (_,es)=>(es.mapM byteOf).map λl=>((AV.v (.string ⟨l.toArray⟩),[]):AV × List bC)
  | none=>none
  else if src == dst&&eE P src then
   match y with
   | .ct r' _ _ _=>(match g r' with
    | some b=>if b.esz=1 then some (y,[]) else none
    | none=>none)
   | _=>none
  else none)=some (x,bs)->bs=[]/\(if eE P src&&isStr P dst then
   match dt f y with
   | some (_,es)=>(es.mapM byteOf).map λl=>((AV.v (.string ⟨l.toArray⟩),[]):AV × List bC)
   | none=>none
  else if src == dst&&eE P src then
   match y with
   | .ct r' _ _ _=>(match f r' with
    | some b=>if b.esz=1 then some (y,[]) else none
    | none=>none)
   | _=>none
  else none)=some (x,bs):=by
  intro y e h;split at h
  ·rename_i j;rw[if_pos j];cases he:dt g y with
   | none=>rw[he]at h;simp at h
   | some p=>rw[he]at h;rw[L2 he (e ▸ k)];refine⟨?_,h⟩;obtain⟨_,_,h⟩:=bU.1 h;cases h;rfl
  rename_i j;split at h;·rename_i d;simp only[bI,iQl]at d;rw[d.1,hd]at d;simp at d
  cases h
 unfold cE at h ⊢;cases v;case v y=>
  cases y;case string s=>
   simp only[hd,CN,gB,iQe]at h ⊢;exact⟨by obtain⟨_,h⟩:=fP.1 h;cases h;rfl,h⟩
  case slice a l c=>
   rcases a with _ | a
   ·rcases l with _ | l
    ·rcases c with _ | c
     ·exact⟨by obtain⟨_,h⟩:=fP.1 h;cases h;rfl,h⟩
     exact⟨(sq h).2,h⟩
    exact⟨(sq h).2,h⟩
   exact⟨(sq h).2,h⟩
  all_goals exact⟨(sq h).2,h⟩
 all_goals exact other rfl h
def EI{P:Program}{H l:aa}{d a:Nat}{t:TypeId}{n:Nat}{p:List (Nat × AV)}{x:AV}(h:ko P H ⟨d,a,H.gen d a,0⟩ t n (some p)=some (x,l)):zi H l /\∀q,l.get q≠H.get q->Made H l q\/q∈cO H.get (p.map (·.2)):=by
 simp only[ko,bU]at h;obtain⟨b,K,h⟩:=h;injection h with z y
 subst y;generalize L:cO H.get (p.map (·.2))=R;have f : ∀q,aa.get ((⟨d,a,H.gen d a,0⟩,some b) :: cL H R) q=if (⟨d,a,H.gen d a,0⟩:Ref)=q then some b else uY H.get R q:=by
  intro q;simp only[aa.get,aa.dX]
 have j : ∀k t',aa.gen ((⟨d,a,H.gen d a,0⟩,some b) :: cL H R) k t'=if d=k/\a=t' then H.gen d a+1 else H.gen k t':=by
  intro k t';simp only[aa.gen,aa.je]
 have c : ∀q,(⟨d,a,H.gen d a,0⟩:Ref)=q->Made H ((⟨d,a,H.gen d a,0⟩,some b) :: cL H R) q:=by
  intro q e;subst e;refine⟨bM _,?_⟩;rw[j,if_pos ⟨rfl,rfl⟩];exact sg _
 refine⟨⟨λk t'=>?_,λq g=>?_,λq b1 J v u m=>?_⟩,λq g=>?_⟩
 ·rw[j];split;·rename_i e;rw[<-e.1,<-e.2];exact Et _
  exact bM _
 ·rw[f]at g;split at g;·rename_i e;exact .inr (c q e)
  exact .inl (II g)
 ·rw[f]at m;split at m;·rename_i e;subst e;exact absurd u (Cd _)
  exact LY v m
 rw[f]at g;split at g;·rename_i e;exact .inl (c q e)
 unfold uY at g;split at g;·rename_i s;exact .inr s
 exact absurd rfl g
def DK{P:Program}{g e:dv}{t:TypeId}{v x:AV}{k:Option AV}{ok:Bool}{bs:List bC}(h:pB P g t (some v) k ok=some (x,bs))(l:Seen g e v):bs=[]/\pB P e t (some v) k ok=some (x,bs):=by
 unfold pB at h ⊢;cases v<;>(try (simp at h;done));rename_i r;cases f:Pf P t with
 | none=>rw[f]at h;simp at h
 | some p=>
 obtain⟨q,m⟩:=p;cases j:k.bind k7 with
 | none=>rw[f,j]at h;simp at h
 | some n=>
 rw[f,j]at h;simp only at h ⊢;cases hm:oz g r with
 | none=>rw[hm]at h;simp at h
 | some a=>
 have d:oz e r=some a:=by
  unfold oz at hm ⊢;cases c:g r with
  | none=>rw[c]at hm;simp at hm
  | some b=>rw[c]at hm;rw[wX l rfl c];exact hm
 rw[d];rw[hm]at h;refine⟨?_,h⟩;simp only at h;split at h
 ·split at h;·obtain⟨_,_,h⟩:=bU.1 h;cases h;rfl
  ·obtain⟨_,_,h⟩:=bU.1 h;cases h;rfl
  cases h
 cases h
def Xd{E:Env}{pc:FuncId->List AV->Option AV}{g j:dv}{tm:List AV}{r:Ref}{o:Oper}(b:blind E o=true){x:AV}{bs:List bC}(h:dq E pc true g tm r o=some (x,bs)) :
 dq E pc true j tm r o=some (x,bs):=by
 unfold blind at b;replace b:=(ye.1 b).2;split at b;·rename_i a;unfold dq at h ⊢;simp only[a]at h ⊢;exact h
 ·rename_i a;unfold dq at h ⊢;simp only[a]at h ⊢;exact h
 ·rename_i c a;obtain⟨k,d⟩:=ye.1 b;split at d
  ·rename_i f l;have e:c.args.toList=[]:=by simpa using k
   unfold dq at h ⊢;simp only[a,e,l,zP,KQ,th,aW,lY,sf,cO,Ey]at h ⊢;exact h
  cases d
 cases b
def P9{E:Env}{o:Oper}(h:Qa E o=true):blind E o=true:=by
 unfold Qa at h;unfold blind;obtain⟨c,b⟩:=ye.1 h;rw[c,ig];split at b;·rename_i a;rw[a]
 ·rename_i a;rw[a]
 cases b
def Tr{E:Env}{oi b:Oper}(h:blind E oi=false):pH E oi b=false:=by
 unfold pH;cases a:Qa E oi with
 | false=>rfl
 | true=>rw[P9 a]at h;cases h
def pG{E:Env}{oi a:Oper}(h:cls E oi≠3):pH E oi a=false:=by
 unfold pH Qa;rw[beq_false_of_ne h];rfl
def Ts{E:Env}{oi a:Oper}(h:((I4 a.op).isSome&&a.dst.isSome)=false):pH E oi a=false:=by
 unfold pH;rw[h,CN]
def P8{E:Env}{pc:FuncId->List AV->Option AV}{g:dv}{tm:List AV}{r:Ref}{o:Oper}(b:Qa E o=true){x:AV}{bs:List bC}(h:dq E pc true g tm r o=some (x,bs)):bs≠[]:=by
 unfold Qa at b;replace b:=(ye.1 b).2;split at b
 ·rename_i a;unfold dq at h;simp only[a]at h;unfold wc at h;split at h
  ·split at h;·cases h;simp
   cases h
  cases h
 ·rename_i a;unfold dq at h;simp only[a]at h;cases h;simp
 cases b
def Si{E:Env}{pc:FuncId->List AV->Option AV}{tc:vl->List AV->aa->dA}{nt dep:Nat}{ops:Array Oper}{o:Oper}{st d:St}{t:Tmp}(a:I4 o.op=some t)(q:wanted ops st.tm o=some true)(h:evalOp E pc tc nt dep true ops o st=some d) :
 (∃x bs tm',dq E pc true st.hp.get st.tm ⟨dep,o.dst.getD 0,st.hp.gen dep (o.dst.getD 0),0⟩ o=some (x,bs)/\dP nt st.tm o.dst x=some tm'/\d=⟨tm',keyed ⟨dep,o.dst.getD 0,st.hp.gen dep (o.dst.getD 0),0⟩ 0 bs st.hp⟩) \/
 ∃c y z x,o.op = .call c/\c.callee = .builtin .append/\c.args.toList.mapM (aW st.tm)=some [y,z]/\kG E.P st.hp c.argTypes[0]? c.argTypes[1]? y z=some (x,d.hp)/\y=dE st.tm t/\dP nt st.tm o.dst x=some d.tm:=by
 unfold evalOp at h;rw[q]at h;simp only at h;split at h;·rename_i x bs u;simp only[bU]at h;obtain⟨tm',g,rfl⟩:=h;exact .inl ⟨x,bs,tm',u,g,rfl⟩
 split at h;·cases h
 split at h
 ·rename_i x H f;simp only[bU]at h;obtain⟨tm',g,rfl⟩:=h;refine .inr ?_;unfold I4 at a;split at a
  ·rename_i c m;split at a
   ·rename_i p;split at a
    ·rename_i t' rest b;cases a;unfold evalW at f;simp only[m,p,b]at f;cases hm:List.mapM (aW st.tm) (Operand.tmp t :: rest) with
     | none=>rw[hm]at f;simp at f
     | some args=>
      rw[hm]at f;have j:=hm;simp only[oo,aW,th,uu,fe,jb]at hm;obtain⟨l,v,e⟩:=hm;simp at e;subst e;simp only at f;split at f;·rename_i s y k n;cases n;exact⟨c,_,_,x,m,p,by rw[b];exact j,f,rfl,g⟩
      ·rename_i k n;cases k
      cases f
    cases a
   cases a
  cases a
 cases h
def NI{E:Env}{pc:FuncId->List AV->Option AV}{g:dv}{tm:List AV}{r:Ref}{o:Oper}{t:Tmp}(d:Cx E.P o.op=some t){x:AV}{bs:List bC}(h:dq E pc true g tm r o=some (x,bs)) :
 bs=[] /\∀f r',Seen g f (dE tm t)->dq E pc true f tm r' o=some (x,bs):=by
 unfold Cx at d;split at d;·rename_i ty t' a;cases d;unfold dq at h ⊢;simp only[a]at h ⊢;exact⟨(Ih h (λ_ _ _=>rfl)).1,λf r' e=>(Ih h e).2⟩
 ·rename_i ty t' N a;cases d;unfold dq at h ⊢;simp only[a]at h ⊢;exact⟨(An h (λ_ _ _=>rfl)).1,λf r' e=>(An h e).2⟩
 ·rename_i ty t' lo hi L a;cases d;unfold dq at h ⊢;simp only[a,AI,CN,iQt]at h ⊢;exact⟨(FH h (λ_ _ _=>rfl)).1,λf r' e=>(FH h e).2⟩
 ·rename_i src dst t' a;split at d;·cases d
  rename_i y;cases d;unfold dq at h ⊢;simp only[a]at h ⊢;have j:eE E.P dst=false:=by simpa using y
  exact⟨(Cq (r':=r) j h (λ_ _ _=>rfl)).1,λf r' e=>(Cq j h e).2⟩
 ·rename_i ty t' k ok a;cases d;unfold dq at h ⊢;simp only[a]at h ⊢;exact⟨(DK h (λ_ _ _=>rfl)).1,λf r' e=>(DK h e).2⟩
 ·rename_i c a;split at d
  ·rename_i K;split at d
   ·rename_i t' l;cases d;unfold dq at h ⊢;simp only[a,l,K,oo,KQ,aW,th,uu,fe]at h ⊢;cases z:dE tm t with
    | mp q=>
     rw[z]at h;simp only[eD]at h ⊢;obtain⟨hd,h⟩:=O5.1 h;simp only[if_neg hd];refine⟨?_,λf r' e=>?_⟩
     ·unfold BJ at h;split at h;·cases h;rfl
      cases h
     unfold BJ at h ⊢;split at h
     ·rename_i p m J s;have v:oz f q=some m:=by
       unfold oz at s ⊢;cases u:g q with
       | none=>rw[u]at s;simp at s
       | some b=>rw[u]at s;rw[wX e rfl u];exact s
      simp only[J,v];exact h
     cases h
    | _=>rw[z]at h;simp only[eD]at h ⊢;refine⟨?_,λf r' e=>h⟩;unfold JA at h;(repeat' split at h)<;>(try simp_all)<;>(try (obtain⟨_,_,_,h⟩:=h;exact h))<;>(try (obtain⟨n,_,h⟩:=jb.1 h;simp at h;exact h.2))
   cases d
  cases d
 cases d
end
section
section
variable{E:Env}{o:Oper}
def IU(h:cls E o=0):xU E o=false:=by
 unfold cls at h;cases a:xU E o with
 | false=>rfl
 | true=>rw[a]at h;simp only[if_true]at h;(repeat' split at h)<;>omega
def L5(h:cls E o=1) : ∃t,Cx E.P o.op=some t/\nO E o=some t/\jQ E o=false:=by
 unfold cls at h;split at h
 ·split at h;·cases h
  rename_i d;split at h
  ·rename_i e;obtain⟨t,a⟩:=iB.1 e;refine⟨t,a,?_,?_⟩;·have:storeT o.op=none:=(by simpa using d);simp[nO,this,a]
   unfold jQ;have:wOp E o.op=false/\B9 o.op=false:=by
    unfold Cx at a;split at a<;>(try (rename_i b;rw[b];exact⟨rfl,rfl⟩))
    ·rename_i c b;split at a;·rename_i f;rw[b];simp[wOp,B9,f]
     cases a
    cases a
   rw[this.1,this.2];simp
  split at h<;>cases h
 cases h
def RS(h:cls E o=2) : ∃ty t x,o.op = .store ty (.tmp t) x/\nO E o=some t:=by
 unfold cls at h;split at h
 ·split at h
  ·rename_i d;obtain⟨t,a⟩:=iB.1 d;have c:=a;unfold storeT at a;split at a;·rename_i ty t' x b;cases a;exact⟨ty,t,x,b,by simp[nO,c]⟩
   cases a
  (repeat' split at h)<;>cases h
 cases h
def BQ(h:cls E o=3):xU E o=true/\jQ E o=false:=by
 unfold cls at h;split at h
 ·rename_i a;split at h;·cases h
  split at h;·cases h
  split at h;·cases h
  rename_i b;exact⟨a,by simpa using b⟩
 cases h
def Ot(h:cls E o=4):nO E o=if B9 o.op then bsT o.op else HC o.op:=by
 unfold cls at h;split at h
 ·split at h;·cases h
  rename_i d;split at h;·cases h
  rename_i c;have b:storeT o.op=none:=by simpa using d
  have a:Cx E.P o.op=none:=(by simpa using c);simp[nO,b,a]
 cases h
end
def Nk{E:Env}{o:Oper}(h:rk E o=true) : ∃c g,o.op = .call c/\c.callee = .value (.func g)/\E.mode g=2/\E.jq o=true/\E.strict o=false:=by
 unfold rk at h;rw[bI,bI]at h;obtain⟨⟨e,d⟩,a⟩:=h;split at a
 ·rename_i c b;split at a;·rename_i g f;exact⟨c,g,b,f,by simpa using a,e,by simpa using d⟩
  cases a
 cases a
def SW{E:Env}{o:Oper}(h:rk E o=true):cls E o=4/\nO E o=none:=by
 obtain⟨c,g,a,b,hm,p,j⟩:=Nk h;have e:storeT o.op=none:=by rw[a];rfl
 have d:Cx E.P o.op=none:=by rw[a];simp[Cx,b]
 have n:k8 o.op=true:=by rw[a];simp[k8,b]
 have f:jQ E o=true:=by simp[jQ,j,a,wOp,b,hm]
 have l:HC o.op=none:=by rw[a];simp[HC,Th,I4,b]
 have k:B9 o.op=false:=by rw[a];rfl
 refine⟨?_,?_⟩;·have m:xU E o=true:=jd f;simp[cls,e,d,m,f]
 simp[nO,e,d,l,k]
def tM{E:Env}{o:Oper}{t:Tmp}(h:nO E o=some t):rk E o=false:=by
 cases a:rk E o with| false=>rfl| true=>rw[(SW a).2]at h;cases h
def Wj{E:Env}{pc:FuncId->List AV->Option AV}{tc:vl->List AV->aa->dA}{H g:aa}{tm:List AV}{r:Ref}{o:Oper}{t:Tmp}(e:Th o.op=some t){x:AV}(h:evalW E pc tc H tm r o=some (x,g)) :
 ∃q a b,lT (dE tm t)=some q/\oz H.get q=some a/\g=H.put q (some (qv b)):=by
 have j : ∀ {ty:TypeId} {m:AV} {k v:Option AV} {y:AV} {g:aa},jU E.P H ty (some m) k v=some (y,g) ->∃q a b,lT m=some q/\oz H.get q=some a/\g=H.put q (some (qv b)):=by
  intro ty m k v y g h;unfold jU at h;split at h
  ·rename_i K u q k' p l d;simp only[eS]at d;subst d;split at h
   ·rename_i z a s f;split at h
    ·split at h
     ·split at h;·cases h;exact⟨q,a,_,rfl,f,rfl⟩
      cases h
     ·cases h;exact⟨q,a,_,rfl,f,rfl⟩
     cases h
    cases h
   cases h
  cases h
 unfold Th at e;split at e;·rename_i c;cases e;unfold evalW at h;simp only[c,aW]at h;exact j h
 ·rename_i c;cases e;unfold evalW at h;simp only[c,aW]at h;exact j h
 ·rename_i ty t' k c;cases e;unfold evalW at h;simp only[c,aW]at h;unfold ru at h;split at h
  ·rename_i K u q k' l d J;split at h
   ·rename_i z a s f;split at h
    ·split at h
     ·split at h;·simp only[bU]at h;obtain⟨v,_,h⟩:=h;cases h;simp only[eS]at d;exact⟨q,a,_,by rw[d];rfl,f,rfl⟩
      cases h
     ·simp only[bU]at h;obtain⟨v,_,h⟩:=h;cases h;simp only[eS]at d;exact⟨q,a,_,by rw[d];rfl,f,rfl⟩
     cases h
    cases h
   cases h
  cases h
 ·rename_i k t' m p c;cases e;unfold evalW at h;simp only[c,aW]at h;unfold mq at h;split at h
  ·rename_i q L n N l d J;split at h
   ·rename_i a f;split at h
    ·split at h;·cases h;simp only[eS]at l;exact⟨q,a,_,by rw[l];rfl,f,rfl⟩
     cases h
    cases h
   cases h
  cases h
 cases e
def Tj{g:dv}{r:Ref}{a:List AV}(h:oz g r=some a) : ∃b,g r=some b/\b.arr=false:=by
 unfold oz at h;split at h;·rename_i e;exact⟨_,e,rfl⟩
 cases h
def zi.map{H:aa}{r:Ref}{c a:List AV}(j:oz H.get r=some c):zi H (H.put r (some (qv a))):=by
 obtain⟨b0,f,g⟩:=Tj j;refine⟨λd t=>?_,λq h=>?_,λq b1 k h l b=>?_⟩;·rw[aa.jo _ _ _ (by rw[f];rfl)];exact bM _
 ·rw[aa.ad]at h;split at h;·rename_i e;subst e;exact .inl (by rw[f];simp)
  exact .inl h
 rw[aa.ad]at b;split at b;·rename_i e;subst e;cases b;rw[f]at h;cases h;rw[g];rfl
 rw[h]at b;cases b;rfl
def Xj{E:Env}{pc:FuncId->List AV->Option AV}{tc:vl->List AV->aa->dA}{H g:aa}{tm:List AV}{r:Ref}{o:Oper}{t:Tmp}(a:I4 o.op=some t){x:AV}(h:evalW E pc tc H tm r o=some (x,g)) :
 ∃m k y z,lT y=lT (dE tm t)/\kG E.P H m k y z=some (x,g):=by
 unfold I4 at a;split at a
 ·rename_i c d;split at a
  ·rename_i n;split at a
   ·rename_i t' rest b;cases a;unfold evalW at h;simp only[d,n,b]at h;cases hm:List.mapM (aW tm) (Operand.tmp t :: rest) with
    | none=>rw[hm]at h;simp at h
    | some args=>
     rw[hm]at h;simp only[oo,aW,th,uu,fe,jb]at hm;obtain⟨l,a,e⟩:=hm;simp at e;subst e;simp only at h;split at h;·rename_i s y f j;cases j;exact⟨_,_,_,_,rfl,h⟩
     ·rename_i f j;cases f
     cases h
   cases a
  cases a
 cases a
def O9{P:Program}{H f:aa}{t:TypeId}{a x:Option AV}{y:AV}(h:kn P H t a x=some (y,f))(d k:Nat):f.gen d k=H.gen d k:=by
 unfold kn at h;split at h
 ·split at h
  ·rename_i r' i j u n _ b g;obtain⟨⟨q,p,m⟩,h⟩:=fP.1 h;split at h
   ·split at h
    ·rename_i v l;split at h;·cases h
     rename_i c;obtain⟨s,h⟩:=fP.1 h;simp only[bU]at h;obtain⟨es',e,h⟩:=h;cases h;rw[aa.jo _ _ _ (by rw[aa.dX];unfold uY;rw[if_neg c,g];rfl),aa.je]
    cases h
   simp only[bU]at h;obtain⟨es',e,h⟩:=h;cases h;rw[aa.jo _ _ _ (by rw[g];rfl)]
  cases h
 cases h
def MV{P:Program}{M:Mem}{ι:Map}{g:dv}{w:World}(q:iA M ι g w){t:TypeId}{n:Nat}(N:aV P t=some n){r:Ref}{i j:Nat}{x:AV}{s a:Value}(K:VR M ι (.ptr r i j) s)(S:VR M ι x a)
 {b:bC} (u:g r=some b) (z:x.cells.length=n) (p:x.cells.all AV.one=true) (h:b.jq=false) (d:b.arr=false) {es':List AV} (f:fS b.es i j x.cells=some es') :
 ∃w',(Instr.storeAt t s a).run P w = .ok () w'/\iA M ι (mF g r { b with es:=es'}) w'/\vg M ι g w M ι (mF g r { b with es:=es'}) w':=by
 cases K with | ptr v c=>
 rename_i l;have k:=q.at v c u;have e:=S.cells;have m:a.cells.size=n:=by have:=e.1;simp at this;omega
 obtain⟨arr,T,fz,L,O,y,Q,J,R⟩:=G7 q u v c h f p (us:=a.cells.toList) (by rw[bC.map,if_neg (by simp[d])];exact e);refine⟨cM w l.b (.cells (dp arr (i * b.esz+j) a.cells.toList) T fz),?_,J,R⟩;rw[k.esz];exact AU N m L O y Q
section
variable{E:Env}{pc:FuncId->List AV->Option AV}{tc:vl->List AV->aa->dA}{nt dep:Nat}{ops:Array Oper}{sts:Nat->St}
variable(C:adK E ops)(A : ∀i o,ops[i]?=some o->evalOp E pc tc nt dep true ops o (sts i)=some (sts (i+1)))
abbrev makes(sts:Nat->St)(j:Nat)(q:Ref):Prop:=Made (sts j).hp (sts (j+1)).hp q
abbrev turns(sts:Nat->St)(j:Nat)(q:Ref):Prop:=(sts (j+1)).hp.get q≠(sts j).hp.get q
theorem Yb{o:Oper}{st b:St}{t:Tmp}(a:bsT o.op=some t)(h:evalOp E pc tc nt dep true ops o st=some b) :
 b.hp=st.hp\/(∃bs,b.hp=keyed ⟨dep,o.dst.getD 0,st.hp.gen dep (o.dst.getD 0),0⟩ 0 bs st.hp) \/∃d n i x,ko E.P st.hp ⟨dep,o.dst.getD 0,st.hp.gen dep (o.dst.getD 0),0⟩ d n (some [(i,dE st.tm t)])=some (x,b.hp):=by
 unfold evalOp at h;split at h;·cases h
 ·simp only[bU]at h;obtain⟨tm',f,rfl⟩:=h;exact .inl rfl
 split at h;·rename_i x bs j;simp only[bU]at h;obtain⟨tm',f,rfl⟩:=h;exact .inr (.inl ⟨bs,rfl⟩)
 split at h;·cases h
 split at h
 ·rename_i x H e;simp only[bU]at h;obtain⟨tm',f,rfl⟩:=h;unfold bsT at a;split at a
  ·rename_i d n ps g;split at a;·rename_i i t' c;cases a;unfold evalW at e;simp only[g,c]at e;exact .inr (.inr ⟨d,n,i,x,e⟩)
   cases a
  cases a
 cases h
theorem BC{o:Oper}{st c:St}(a:cls E o=0\/cls E o=1)(h:evalOp E pc tc nt dep true ops o st=some c):c.hp=st.hp:=by
 rcases pg h with ⟨_,tm',d,he⟩ | ⟨_,x,bs,e,tm',d,he⟩ | b
 ·rw[he]
 ·rw[he];rcases a with a | a
  ·rw[(yT (IU a) e).1];rfl
  obtain⟨t,d,_,_⟩:=L5 a;rw[(NI d e).1];rfl
 rcases a with a | a
 ·have:=IU a;rw[jd b]at this;cases this
 obtain⟨t,d,_,hw⟩:=L5 a;rw[hw]at b;cases b
theorem HK{o:Oper}{st a:St}{ty:TypeId}{t:Tmp}{xo:Operand}(b:o.op = .store ty (.tmp t) xo)(h:evalOp E pc tc nt dep true ops o st=some a)(d:wanted ops st.tm o=some true) :
 ∃y,kn E.P st.hp ty (some (dE st.tm t)) (aW st.tm xo)=some (y,a.hp)/\dP nt st.tm o.dst y=some a.tm:=by
 unfold evalOp at h;rw[d]at h;have e:dq E pc true st.hp.get st.tm ⟨dep,o.dst.getD 0,st.hp.gen dep (o.dst.getD 0),0⟩ o=none:=by unfold dq;simp only[b]
 rw[e]at h;simp only at h;split at h;·cases h
 split at h;·rename_i x H c;simp only[bU]at h;obtain⟨tm',f,rfl⟩:=h;unfold evalW at c;simp only[b]at c;exact⟨x,c,f⟩
 cases h
theorem step_map{o:Oper}{st a:St}{t:Tmp}(d:Th o.op=some t)(h:evalOp E pc tc nt dep true ops o st=some a) :
 a.hp=st.hp\/(∃bs,a.hp=keyed ⟨dep,o.dst.getD 0,st.hp.gen dep (o.dst.getD 0),0⟩ 0 bs st.hp) \/∃q c b,lT (dE st.tm t)=some q/\oz st.hp.get q=some c/\a.hp=st.hp.put q (some (qv b)):=by
 unfold evalOp at h;split at h;·cases h
 ·simp only[bU]at h;obtain⟨tm',e,rfl⟩:=h;exact .inl rfl
 split at h;·rename_i x bs g;simp only[bU]at h;obtain⟨tm',e,rfl⟩:=h;exact .inr (.inl ⟨bs,rfl⟩)
 split at h;·cases h
 split at h;·rename_i x H f;simp only[bU]at h;obtain⟨tm',e,rfl⟩:=h;exact .inr (.inr (Wj d f))
 cases h
theorem Sh{o:Oper}{st d:St}(k:rk E o=true)(h:evalOp E pc tc nt dep true ops o st=some d):d.hp=st.hp:=by
 obtain⟨c,g,e,f,hm,j,n⟩:=Nk k;unfold evalOp at h;split at h;·cases h
 ·simp only[bU]at h;obtain⟨tm',l,rfl⟩:=h;rfl
 split at h
 ·rename_i x bs b;exfalso;unfold dq at b;simp only[e,f]at b;split at b;·cases b
  simp only[zP,aW,lY,hm,if_true,AN]at b;cases b
 split at h;·cases h
 split at h
 ·rename_i x H a;simp only[bU]at h;obtain⟨tm',l,rfl⟩:=h;unfold evalW at a;simp only[e,f]at a;split at a;·cases a
  rw[j]at a;cases hw:ot E pc tc st.hp ⟨dep,o.dst.getD 0,st.hp.gen dep (o.dst.getD 0),0⟩ (aW st.tm (.func g)) _ with
  | none=>rw[hw]at a;simp[ti]at a
  | some p=>
   obtain⟨y,m⟩:=p;rw[hw]at a;unfold ti at a;simp only at a;split at a;·cases a;rfl
   cases a
 cases h
theorem UN{o:Oper}{st a:St}{t:Tmp}(d:I4 o.op=some t)(h:evalOp E pc tc nt dep true ops o st=some a) :
 a.hp=st.hp\/(∃bs,a.hp=keyed ⟨dep,o.dst.getD 0,st.hp.gen dep (o.dst.getD 0),0⟩ 0 bs st.hp) \/∃b c y z x,lT y=lT (dE st.tm t)/\kG E.P st.hp b c y z=some (x,a.hp):=by
 unfold evalOp at h;split at h;·cases h
 ·simp only[bU]at h;obtain⟨tm',e,rfl⟩:=h;exact .inl rfl
 split at h;·rename_i x bs k;simp only[bU]at h;obtain⟨tm',e,rfl⟩:=h;exact .inr (.inl ⟨bs,rfl⟩)
 split at h;·cases h
 split at h;·rename_i x H g;simp only[bU]at h;obtain⟨tm',e,rfl⟩:=h;obtain⟨b,c,y,z,j,f⟩:=Xj d g;exact .inr (.inr ⟨b,c,y,z,x,j,f⟩)
 cases h
theorem Iy{H:aa}{d t:Nat}{bs:List bC}{q:Ref}(h:(keyed ⟨d,t,H.gen d t,0⟩ 0 bs H).get q≠H.get q):Made H (keyed ⟨d,t,H.gen d t,0⟩ 0 bs H) q:=by
 rw[aa.n8]at h;unfold tV at h;split at h
 ·rename_i g;obtain⟨c,b,a,f⟩:=g;refine⟨?_,?_⟩;·rw[c,b,a];exact bM _
  rw[aa.nj,if_pos ⟨c,b,by intro e;rw[e]at f;simp at f⟩,a];exact sg _
 exact absurd rfl h
include A in
theorem Lw{i n:Nat}(a:i<=n)(d:n<=ops.size){t:Tmp}(c : ∀k,j2 ops k=some t->k<i):dE (sts n).tm t=dE (sts i).tm t:=by
 induction n with| zero=>rw[GR.1 a]| succ n f=>
  rcases fQ n i with h | h
  ·rw[show i=n+1 by omega]
  have b:=kY (show n<ops.size from d);obtain⟨x,g⟩:=MX (A n _ b);rw[wW g,if_neg,f h (by omega)];intro e;have:=c n (by simp[j2,b,e]);omega
variable(B:ops.toList.all (I0 E (sts ops.size))=true)
include C A B
theorem HF{i:Nat}{o:Oper}(O:ops[i]?=some o):zi (sts i).hp (sts (i+1)).hp/\(cls E o<3 ->∀d t,(sts (i+1)).hp.gen d t=(sts i).hp.gen d t) /\
 (cls E o≠2 ->∀q,turns sts i q->makes sts i q\/cls E o=4 /\∃t,nO E o=some t/\lT (dE (sts i).tm t)=some q):=by
 have h:=A i o O;have hle:=Fj E o;have S:cls E o=0\/cls E o=1\/cls E o=2\/cls E o=3\/cls E o=4:=by omega
 have same:(sts (i+1)).hp=(sts i).hp->zi (sts i).hp (sts (i+1)).hp/\(cls E o<3 ->∀d t,(sts (i+1)).hp.gen d t=(sts i).hp.gen d t) /\
  (cls E o≠2 ->∀q,turns sts i q->makes sts i q\/cls E o=4 /\∃t,nO E o=some t/\lT (dE (sts i).tm t)=some q):=by
  intro e;refine⟨by rw[e];exact zi.refl _,λ_ d t=>by rw[e],λ_ q f=>?_⟩;unfold turns at f;rw[e]at f;exact absurd rfl f
 rcases S with c | c | c | c | c
 ·exact same (BC (.inl c) h)
 ·exact same (BC (.inr c) h)
 ·obtain⟨ty,t,x,Y,hs⟩:=RS c;cases J:wanted ops (sts i).tm o with
  | none=>unfold evalOp at h;rw[J]at h;cases h
  | some b=>
   cases b with| false=>unfold evalOp at h;rw[J]at h;simp only[bU]at h;obtain⟨tm',_,e⟩:=h;exact same (by rw[<-e])| true=>obtain⟨y,hW,_⟩:=HK Y h J;exact⟨Mx hW,λ_ d t=>O9 hW d t,λhn=>absurd c hn⟩
 ·have V:=(BQ c).2;rcases pg h with ⟨_,tm',m,he⟩ | ⟨_,x,bs,f,tm',m,he⟩ | p
  ·exact same (by rw[he])
  ·have e:(sts (i+1)).hp=keyed ⟨dep,o.dst.getD 0,(sts i).hp.gen dep (o.dst.getD 0),0⟩ 0 bs (sts i).hp:=(by rw[he]);refine⟨by rw[e];exact zi.keyed _ _ _ _,λl=>by omega,λ_ q f => .inl ?_⟩;unfold turns at f;unfold makes;rw[e]at f ⊢;exact Iy f
  rw[V]at p;cases p
 cases N:rk E o with| true=>exact same (Sh N h)| false=>
 obtain⟨t,m,R⟩:=C.stay i o O (by omega) (by omega) N;have U : ∀bs,(sts (i+1)).hp=keyed ⟨dep,o.dst.getD 0,(sts i).hp.gen dep (o.dst.getD 0),0⟩ 0 bs (sts i).hp->zi (sts i).hp (sts (i+1)).hp/\(cls E o<3 ->∀d t,(sts (i+1)).hp.gen d t=(sts i).hp.gen d t) /\
  (cls E o≠2 ->∀q,turns sts i q->makes sts i q\/cls E o=4 /\∃t,nO E o=some t/\lT (dE (sts i).tm t)=some q):=by
  intro bs e;refine⟨by rw[e];exact zi.keyed _ _ _ _,λl=>by omega,λ_ q f => .inl ?_⟩;unfold turns at f;unfold makes;rw[e]at f ⊢;exact Iy f
 cases L:B9 o.op with
 | false=>
  have j:HC o.op=some t:=by rw[Ot c,L]at m;simpa using m
  cases s:Th o.op with
  | some t'=>
   have e':t'=t:=by unfold HC at j;rw[s]at j;simpa using j
   subst e';rcases step_map s h with e | ⟨bs,e⟩ | ⟨q,Z,Q,f,hm,e⟩
   ·exact same e
   ·exact U bs e
   refine⟨by rw[e];exact zi.map hm,λl=>by omega,λ_ q' g => .inr ⟨c,t',m,?_⟩⟩;unfold turns at g;rw[e,aa.ad]at g;split at g;·rename_i e2;subst e2;exact f
   exact absurd rfl g
  | none=>
  have G:I4 o.op=some t:=by unfold HC at j;rw[s]at j;exact j
  rcases UN G h with e | ⟨bs,e⟩ | ⟨t1,t2,y,z,x,hy,X⟩
  ·exact same e
  ·exact U bs e
  obtain⟨hm,r,hr,f⟩:=Lf X;refine⟨hm,λl=>by omega,λ_ q g=>?_⟩;rcases f q g with k | k
  ·exact .inl k
  subst k;exact .inr ⟨c,t,m,by rw[<-hy];exact hr⟩
 | true=>
  have K:bsT o.op=some t:=by rw[Ot c,L]at m;simpa using m
  rcases Yb K h with e | ⟨bs,e⟩ | ⟨t1,n,i',x,X⟩
  ·exact same e
  ·exact U bs e
  obtain⟨hm,f⟩:=EI X;refine⟨hm,λl=>by omega,λ_ q g=>?_⟩;rcases f q g with k | k
  ·exact .inl k
  refine .inr ⟨c,t,m,?_⟩;have T:(E.jq o&&B9 o.op)=true:=by
   have J:jQ E o=true:=by
    unfold cls at c;split at c
    ·split at c;·cases c
     split at c;·cases c
     split at c;·assumption
     cases c
    cases c
   unfold jQ at J;rcases G0.1 J with u | u
   ·exfalso;replace u:=(ye.1 u).2;unfold B9 at L;split at L;·rename_i W;rw[W]at u;cases u
    cases L
   exact u
  have hi:i<ops.size:=(jx.1 O).1;have a:=gP.1 B o (ja (i:=i) (by simpa using O));unfold I0 at a;rw[T,K]at a;simp only[AI,Cc]at a;rw[Lw A (jw hi) (bM ops.size) R]at a;simp only[zj,iQU,cO,nL,Ey,tg]at k;revert a k;generalize dE (sts i).tm t=v;intro a k;cases v with
  | ct r off len cap=>simp only[aj,depth,lX]at k;rw[k];rfl
  | v y=>simp[aj,depth]at k
  | _=>cases a
theorem tj{i n:Nat}(a:i<=n)(b:n<=ops.size)(d t:Nat):(sts i).hp.gen d t<=(sts n).hp.gen d t:=by
 induction n with| zero=>rw[GR.1 a];exact bM _| succ n c=>
  rcases fQ n i with h | h
  ·rw[show i=n+1 by omega];exact bM _
  exact wT (c h (by omega)) ((HF C A B (kY (show n<ops.size from b))).1.gen d t)
theorem Ph{M:Mem}{ι:Map}{w:World}(D:iA M ι (sts 0).hp.get w)(F:uq ι (sts 0).hp){n:Nat}(e:n<=ops.size) : ∀q,(sts n).hp.get q≠none->q.g<(sts n).hp.gen q.d q.t:=by
 induction n with
 | zero=>
  intro q h;cases c:(sts 0).hp.get q with
  | none=>exact absurd c h
  | some k=>obtain⟨l,j,_⟩:=D.live q k c;exact F q l j
 | succ n f=>
  intro q h;have b:=(HF C A B (kY (show n<ops.size from e))).1;rcases b.born q h with a | a
  ·exact AE (f (by omega) q a) (b.gen _ _)
  exact a.2
theorem af6{M:Mem}{ι:Map}{w:World}(D:iA M ι (sts 0).hp.get w)(F:uq ι (sts 0).hp){i:Nat}{r:Ref}{b:bC}(c:(sts i).hp.get r=some b){n:Nat}(g:i<=n)(p:n<=ops.size) : ∀a,(sts n).hp.get r=some a->a.arr=b.arr:=by
 induction n with| zero=>intro a h;rw[GR.1 g]at c;rw[c]at h;cases h;rfl| succ n q=>
  intro a h;rcases fQ n i with m | e
  ·rw[show i=n+1 by omega]at c;rw[c]at h;cases h;rfl
  have l:=(HF C A B (kY (show n<ops.size from p))).1;rcases l.born r (by rw[h];simp)with f | f
  ·cases j:(sts n).hp.get r with
   | none=>exact absurd j f
   | some k=>rw[l.arr r k a j (Ph C A B D F (by omega) r f) h];exact q e (by omega) k j
  have s:=Ph C A B D F (show i<=ops.size by omega) r (by rw[c];simp);have u:=tj C A B e (by omega) r.d r.t;have:=f.1;omega
theorem E8{j b:Nat}{q:Ref}(f:j<ops.size)(c:b<ops.size)(h:makes sts j q)(e:makes sts b q):j=b:=by
 rcases EA j b with a | rfl | a
 ·have:=tj C A B (show j+1<=b from a) (jw c) q.d q.t;have:=h.2;have:=e.1;omega
 ·rfl
 have:=tj C A B (show b+1<=j from a) (jw f) q.d q.t;have:=e.2;have:=h.1;omega
theorem A8{j:Nat}{q:Ref}{o:Oper}(c:ops[j]?=some o)(h:makes sts j q):3<=cls E o:=by
 rcases fQ (cls E o) 3 with a | b
 ·have:=(HF C A B c).2.1 a q.d q.t;have f:=h.1;have e:=h.2;omega
 exact b
variable{M:Mem}{ι:Map}{w:World}
variable(D:iA M ι (sts 0).hp.get w)(F:uq ι (sts 0).hp)(G:(sK E ops).all (FG (sts ops.size).tm)=true)(I:ops.toList.all (yJ (sts ops.size))=true)
include D F I
theorem Q2{i:Nat}{o:Oper}(j:ops[i]?=some o)(V:cls E o=2)(N:wanted ops (sts i).tm o=some true) :
 ∃ty t xo r h k b x n es',o.op = .store ty (.tmp t) xo/\nO E o=some t/\dE (sts i).tm t = .ptr r h k/\(sts i).hp.get r=some b/\b.arr=false/\b.jq=false/\aW (sts i).tm xo=some x/\aV E.P ty=some n /\
  x.cells.length=n/\x.cells.all AV.one=true/\fS b.es h k x.cells=some es'/\(sts (i+1)).hp=(sts i).hp.put r (some { b with es:=es'})/\dP nt (sts i).tm o.dst AV.undef=some (sts (i+1)).tm:=by
 have hi:i<ops.size:=(jx.1 j).1;obtain⟨ty,t,xo,f,v⟩:=RS V;obtain⟨y,c,U⟩:=HK f (A i o j) N;obtain⟨t',g,m⟩:=C.stay i o j (by omega) (by omega) (tM v);rw[v]at g;cases g;have e:=Lw A (jw hi) (bM ops.size) m;have a:=gP.1 I o (ja (i:=i) (by simpa using j));unfold yJ at a;rw[f]at a;simp only[e]at a;have R:=c;unfold kn at c;split at c
 ·rename_i r' h k O n l T S;simp only[eS]at l;rw[l]at a;simp only at a;split at c
  ·rename_i b J;obtain⟨⟨q,z,u⟩,c⟩:=fP.1 c;have d:b.arr=false:=by
    split at a;·rename_i K s;rw[<-af6 C A B D F J (jw hi) (bM _) K s];simpa using a
    cases a
   rw[if_neg (by simp[d])]at c;simp only[bU]at c;obtain⟨es',p,c⟩:=c;injection c with Q L
   subst Q;exact⟨ty,t,xo,r',h,k,b,O,n,es',f,v,l,J,d,u,T,S,q,z,p,L.symm,U⟩
  cases c
 cases c
theorem HE{j:Nat}{o:Oper}(a:ops[j]?=some o){q:Ref}(h:turns sts j q):makes sts j q\/(cls E o=2\/cls E o=4) /\∃t,nO E o=some t/\lT (dE (sts j).tm t)=some q:=by
 by_cases d:cls E o=2
 ·cases hw:wanted ops (sts j).tm o with| none=>have:=A j o a;unfold evalOp at this;rw[hw]at this;cases this| some b=>
   cases b with
   | false=>have:=A j o a;unfold evalOp at this;rw[hw]at this;simp only[bU]at this;obtain⟨tm',_,e⟩:=this;unfold turns at h;rw[<-e]at h;exact absurd rfl h
   | true=>
    obtain⟨ty,t,xo,r,m,s,b,x,n,es',l,g,k,p,_,_,_,_,_,_,_,he,_⟩:=Q2 C A B D F I a d hw;refine .inr ⟨.inl d,t,g,?_⟩;unfold turns at h;rw[he,aa.ad]at h;split at h;·rename_i e;subst e;rw[k];rfl
    exact absurd rfl h
 rcases(HF C A B a).2.2 d q h with c | ⟨c,f⟩
 ·exact .inl c
 exact .inr ⟨.inr c,f⟩
omit A D F I C B in
theorem V1{L:Nat->Bool}(g:rr ops L){i:Nat}{o:Oper}(l:ops[i]?=some o)(hi:L i=false)(c : ∀e∈gf o,L e=true){j:Nat}{d:Oper}(b:ops[j]?=some d)
 (h:j<i->((eG ops.toList []).getD i 0).testBit j=true) (k:i<j->((eG ops.toList []).getD j 0).testBit i=true):(L j=true↔j<i):=by
 constructor
 ·intro f;rcases EA j i with a | rfl | a
  ·exact a
  ·rw[hi]at f;cases f
  have:=wz g j d b (λe m=>g j d f b e m) i (k a);rw[hi]at this;cases this
 intro a;exact wz g i o l c j (h a)
omit D F I B in
include G in
theorem V0{L:Nat->Bool}(V:rr ops L){i:Nat}{o:Oper}(s:ops[i]?=some o)(hi:L i=false)(J : ∀e∈gf o,L e=true)(f:cls E o=1\/cls E o=2){t:Tmp}(v:nO E o=some t){q:Ref}(x:lT (dE (sts i).tm t)=some q)
 {j:Nat} {m:Oper} (k:ops[j]?=some m) (d:cls E m=2\/cls E m=4) {t':Tmp} (l:nO E m=some t') (p:lT (dE (sts j).tm t')=some q):(L j=true↔j<i):=by
 have K:i<ops.size:=(jx.1 s).1;have O:j<ops.size:=(jx.1 k).1;obtain⟨t1,R,s1⟩:=C.stay i o s (by omega) (by omega) (tM v);obtain⟨t2,Q,s2⟩:=C.stay j m k (by omega) (by omega) (tM l);rw[v]at R;cases R;rw[l]at Q;cases Q;have S:=Lw A (jw K) (bM ops.size) s1;have U:=Lw A (jw O) (bM ops.size) s2;rw[<-S]at x;rw[<-U]at p;have T : ∀a b,nO E a=some t->nO E b=some t' ->¬(settled E ops a b=true):=by
  intro a b z y c;unfold settled at c;rw[z,y]at c;simp only[jf,K5]at c;have g:=gP.1 G;rcases c with c | c
  ·have:=g _ c;unfold FG at this;simp only[x,p]at this;simp at this
  have:=g _ c;unfold FG at this;simp only[x,p]at this;simp at this
 have N : ∀a b,nO E a=some t'->nO E b=some t ->¬(settled E ops a b=true):=by
  intro a b z y c;unfold settled at c;rw[z,y]at c;simp only[jf,K5]at c;have g:=gP.1 G;rcases c with c | c
  ·have:=g _ c;unfold FG at this;simp only[x,p]at this;simp at this
  have:=g _ c;unfold FG at this;simp only[x,p]at this;simp at this
 refine V1 V s hi J k (λn=>?_) (λn=>?_)
 ·by_cases u:DT (cls E o) (cls E m)=true
  ·rcases C.meet i j o m s k n u (tM v) (tM l)with h | h
   ·exact h
   exact absurd h (T o m v l)
  refine C.must i j o m s k n ?_;unfold rE blind;rcases f with f | f<;>rcases d with d | d<;>rw[f,d]at u ⊢ <;> first | rfl | exact absurd rfl u
 by_cases u:DT (cls E m) (cls E o)=true
 ·rcases C.meet j i m o k s n u (tM l) (tM v)with h | h
  ·exact h
  exact absurd h (N m o l v)
 refine C.must j i m o k s n ?_;unfold rE blind;rcases f with f | f<;>rcases d with d | d<;>rw[f,d]at u ⊢ <;> first | rfl | exact absurd rfl u
omit A D F I B in
theorem uF{L:Nat->Bool}(u:rr ops L){i:Nat}{o:Oper}(n:ops[i]?=some o)(hi:L i=false)(p : ∀e∈gf o,L e=true)(t:3<=cls E o)
 {j:Nat} {d:Oper} (f:ops[j]?=some d) (l:blind E o=false\/cls E d≠2) (k:pH E o d=false/\pH E d o=false) (c:cls E d=2\/cls E d=4\/cls E o=4/\3<=cls E d):(L j=true↔j<i):=by
 have x:=Fj E o;have v:=Fj E d;have q:rE E o d=true/\rE E d o=true:=by
  unfold rE;rw[k.1,k.2];have a:cls E o=3\/cls E o=4:=by omega
  rcases c with c | c | ⟨m,c⟩
  ·have s:=l.resolve_right (λh=>h c);rcases a with a | a<;>rw[a,c,s]<;>exact⟨rfl,rfl⟩
  ·rcases a with a | a<;>rw[a,c]<;>simp
  have b:cls E d=3\/cls E d=4:=(by omega);rcases b with b | b<;>rw[m,b]<;>simp
 exact V1 u n hi p f (λg=>C.must i j o d n f g q.1) (λg=>C.must j i d o f n g q.2)
end
end
section
section
variable{E:Env}{pc:FuncId->List AV->Option AV}{tc:vl->List AV->aa->dA}{nt dep:Nat}{ops:Array Oper}{sts:Nat->St}
variable(C:adK E ops)(A : ∀i o,ops[i]?=some o->evalOp E pc tc nt dep true ops o (sts i)=some (sts (i+1)))
variable{M:Mem}{ι:Map}{w:World}{ds:List Deferred}
structure Xw (E:Env) (ops:Array Oper) (sts:Nat->St) (M:Mem) (ι:Map) (w:World) (L:Nat->Bool) (M1:Mem) (ι1:Map) (g1:dv) (c:Nat) (w1:World):Prop where
 sim:iA M1 ι1 g1 w1
 fwd:vg M ι (sts 0).hp.get w M1 ι1 g1 w1
 le:c<=ops.size
 cut : ∀j o,j<c->ops[j]?=some o->3<=cls E o->L j=true
 hand : ∀q,ι1 q≠none->q.g<(sts c).hp.gen q.d q.t \/∃j,j<ops.size/\L j=true/\c<=j/\makes sts j q
 get : ∀q,∃n,n<=ops.size/\g1 q=(sts n).hp.get q /\∀j,j<ops.size->turns sts j q->(L j=true↔j<n)
structure Xx (E:Env) (nt:Nat) (ops:Array Oper) (sts:Nat->St) (M:Mem) (ι:Map) (w:World) (ds:List Deferred) (L:Nat->Bool) (a1:Act) (w1:World):Prop where
 closed:rr ops L
 defers:a1.defers=ds
 at_ : ∃M1 ι1 tm1 g1 c,TS ops sts L tm1/\TR M1 ι1 tm1 a1/\a1.tmps.size=nt/\Xw E ops sts M ι w L M1 ι1 g1 c w1
theorem Cn{a b:Nat}{q:Ref}(h:a<=b)(c : ∀j,a<=j->j<b ->¬turns sts j q):(sts b).hp.get q=(sts a).hp.get q:=by
 induction b with| zero=>rw[GR.1 h]| succ b g=>
  rcases fQ b a with e | d
  ·rw[show a=b+1 by omega]
  have:=c b d (sg b);unfold turns at this;rw[wV.1 this];exact g d λj f k=>c j f (by omega)
theorem Xw.OC{L:Nat->Bool}{m:Mem}{g:Map}{g1:dv}{c:Nat}{p:World}(h:Xw E ops sts M ι w L m g g1 c p){q:Ref}{i:Nat}(hi:i<=ops.size)(k : ∀j,j<ops.size->turns sts j q->(L j=true↔j<i)):g1 q=(sts i).hp.get q:=by
 obtain⟨n,t,e,l⟩:=h.get q;rw[e];rcases Nat.le_total n i with hle | hle
 ·exact(Cn hle λj s f d=>by
   have a:=l j (by omega) d;have b:=k j (by omega) d;have:=a.1 (b.2 f);omega).symm
 exact Cn hle λj s f d=>by
  have a:=l j (by omega) d;have b:=k j (by omega) d;have:=b.1 (a.2 f);omega
variable(B:ops.toList.all (I0 E (sts ops.size))=true)
include C A B
theorem DW{L:Nat->Bool}{u:Mem}{e:Map}{g1:dv}{c:Nat}{v:World}(D:iA M ι (sts 0).hp.get w)(F:uq ι (sts 0).hp)(h:Xw E ops sts M ι w L u e g1 c v){i:Nat}(n:i<ops.size)(hi:L i=false){q:Ref}
 (y:(sts i).hp.get q≠none) (x:e q≠none) {j:Nat} (a:j<ops.size) (k:makes sts j q):(L j=true↔j<i):=by
 constructor
 ·intro f;rcases fQ j i with b | l
  ·exact b
  have z:=Ph C A B D F (jw n) q y;have g:=tj C A B l (jw a) q.d q.t;have:=k.1;omega
 intro b;rcases h.hand q x with z | ⟨J,s,f,_,m⟩
 ·have p:j<c:=by
   rcases fQ j c with g | g
   ·exact g
   have:=tj C A B g (jw a) q.d q.t;have:=k.1;omega
  exact h.cut j _ p (kY a) (A8 C A B (kY a) k)
 rw[E8 C A B a s k m];exact f
variable(D:iA M ι (sts 0).hp.get w)(F:uq ι (sts 0).hp)(G:(sK E ops).all (FG (sts ops.size).tm)=true)(I:ops.toList.all (yJ (sts ops.size))=true)
include D F G I
theorem J4{L:Nat->Bool}(K:rr ops L){u:Mem}{f:Map}{g1:dv}{c:Nat}{v:World}(h:Xw E ops sts M ι w L u f g1 c v){i:Nat}{o:Oper}(s:ops[i]?=some o)(hi:L i=false)(k : ∀e∈gf o,L e=true)
 (n:cls E o=1\/cls E o=2) {t:Tmp} (J:nO E o=some t) {q:Ref} (z:lT (dE (sts i).tm t)=some q) (a:(sts i).hp.get q≠none) (y:f q≠none) :
 g1 q=(sts i).hp.get q /\∀j,j<ops.size->turns sts j q->(L j=true↔j<i):=by
 have d:i<ops.size:=(jx.1 s).1;have key : ∀j,j<ops.size->turns sts j q->(L j=true↔j<i):=by
  intro j p x;have b:=kY p;rcases HE C A B D F I b x with hm | ⟨m,t',g,l⟩
  ·exact DW C A B D F h d hi a y p hm
  exact V0 C A G K s hi k n J z b m g l
 exact⟨h.OC (jw d) key,key⟩
theorem Tm(hpc : ∀f xs y,pc f xs=some y->kE E.P f xs y)(htc : ∀f xs H y H',tc f xs H=some (y,H')->nH E.P f xs H y H'){ro:Option Nat}{Q:Exit->Act->World->Prop}
 {L L':Nat->Bool} {i:Nat} {o:Oper} (ho:ops[i]?=some o) (hi:L i=false) (hed : ∀e∈gf o,L e=true)
 (O : ∀j,L' j=true↔(L j=true\/j=i)) {a1:Act} {w1:World} (hI:Xx E nt ops sts M ι w ds L a1 w1) {K:Act->World->Prop} (hK : ∀a' w',Xx E nt ops sts M ι w ds L' a' w'->K a' w') :
 if Region.wanted o (yielded ops a1.tmps) then o.wpIn (FW ro) 0 E.P a1 w1 K Q else K (a1.put o.dst undef) w1:=by
 obtain⟨hc,hds,M1,X,tm1,g1,c,hTS,V,hnt,S⟩:=hI;have N:i<ops.size:=(jx.1 ho).1;have hc':rr ops L':=rr.next hc ho hed O;have hlook : ∀t∈o.looksAt ops,dE tm1 t=dE (sts i).tm t:=λt ht=>Ic C.toRegB A hc ho hi hed hTS ht;have hag:=Bg hlook;have hwd:=zn hlook;have step:=A i o ho;have hle4:=Fj E o;have fin : ∀(u:Value)(x:AV)(R:List AV)(w':World)(M':Mem)(ι':Map),(sts (i+1)).hp=(sts i).hp->dP nt (sts i).tm o.dst x=some (sts (i+1)).tm->dP nt tm1 o.dst x=some R ->
  TR M' ι' R (a1.put o.dst u)->(a1.put o.dst u).tmps.size=nt->iA M' ι' g1 w'->vg M1 X g1 w1 M' ι' g1 w'->(∀q,ι' q≠none->X q≠none)->Xx E nt ops sts M ι w ds L' (a1.put o.dst u) w':=by
  intro u x R w' M' ι' hsame hx Y htr hn hS' hF' hι;refine⟨hc',(jh _ _ _).trans hds,M',ι',R,g1,c,vq C.toRegB ho O hi hTS hx Y,htr,hn,hS',S.fwd.trans hF',S.le,λj oj hj s hcj=>(O j).2 (.inl (S.cut j oj hj s hcj)),λq hq=>?_,λq=>?_⟩
  ·rcases S.hand q (hι q hq)with h | ⟨j,h1,h2,h3,h4⟩
   ·exact .inl h
   exact .inr ⟨j,h1,(O j).2 (.inl h2),h3,h4⟩
  obtain⟨n,h1,h2,h3⟩:=S.get q;refine⟨n,h1,h2,λj hj hT=>?_⟩;have J:j≠i:=by intro e;subst e;exact hT (by rw[hsame])
  rw[<-h3 j hj hT,O j];simp[J]
 have hkeyfree : ∀k:Nat,X { (⟨dep+1,0,(sts ops.size).hp.gen (dep+1) 0,0⟩:Ref)with k:=k}=none:=by
  intro k;cases hq:X { (⟨dep+1,0,(sts ops.size).hp.gen (dep+1) 0,0⟩:Ref)with k:=k} with
  | none=>rfl
  | some l=>
   exfalso;rcases S.hand _ (by rw[hq];simp)with h | ⟨j,h1,_,_,h4⟩
   ·have:=tj C A B S.le (bM _) (dep+1) 0;simp only at h;omega
   have:=tj C A B (show j+1<=ops.size from h1) (bM _) (dep+1) 0;have:=h4.2;simp only at this;omega
 have quiet : ∀ {x:AV} {tm':List AV},(sts (i+1)).hp=(sts i).hp->dP nt (sts i).tm o.dst x=some (sts (i+1)).tm ->
  dq E pc true g1 tm1 ⟨dep+1,0,(sts ops.size).hp.gen (dep+1) 0,0⟩ o=some (x,[])->o.wpIn (FW ro) 0 E.P a1 w1 K Q:=by
  intro x tm' hsame hx hq;obtain⟨R,Y⟩:=mw (tm1:=tm1) hx;refine yZ (E:=E) (o:=o) S.sim V rfl hkeyfree hpc (λh=>by cases h) hq ro K Q λu w' ⟨M',ι',h1,h2,h3,h4⟩=>hK _ _ ?_;rw[oB]at h2 h3;obtain⟨h5,h6⟩:=(V.mono h3.mem h3.map).put hnt Y h1;refine fin u x R w' M' ι' hsame hx Y h5 h6 h2 h3 λq hq hn=>hq (h4 q hn (λk hk=>by simp at hk))
 have hno:wanted ops (sts i).tm o=some false->if Region.wanted o (yielded ops a1.tmps) then o.wpIn (FW ro) 0 E.P a1 w1 K Q else K (a1.put o.dst undef) w1:=by
  intro hw;have hw1:=hw;rw[<-hwd]at hw1;rw[kF V hw1];simp only[gB,iQe];unfold evalOp at step;rw[hw]at step;simp only[bU]at step;obtain⟨tm',ht,he⟩:=step;have hx:dP nt (sts i).tm o.dst AV.undef=some (sts (i+1)).tm:=by rw[<-he];exact ht
  obtain⟨R,Y⟩:=mw (tm1:=tm1) hx;obtain⟨h1,h2⟩:=V.put hnt Y (u:=undef) (.v rfl);exact hK _ _ (fin undef AV.undef R w1 M1 X (by rw[<-he]) hx Y h1 h2 S.sim vg.refl λ_ h=>h)
 have maker : ∀ {d:Nat} {x:AV} {bs:List bC},3<=cls E o->(sts (i+1)).hp=keyed ⟨dep,d,(sts i).hp.gen dep d,0⟩ 0 bs (sts i).hp->dP nt (sts i).tm o.dst x=some (sts (i+1)).tm ->
  dq E pc true g1 tm1 ⟨dep,d,(sts i).hp.gen dep d,0⟩ o=some (x,bs)->(∀k,X { (⟨dep,d,(sts i).hp.gen dep d,0⟩:Ref)with k:=k}=none)->o.wpIn (FW ro) 0 E.P a1 w1 K Q:=by
  intro d x bs Z hhp hx hq' hfree;obtain⟨R,Y⟩:=mw (tm1:=tm1) hx;refine yZ (E:=E) (o:=o) S.sim V rfl hfree hpc (λh=>by cases h) hq' ro K Q λu w' ⟨M',ι',h1,h2,h3,h4⟩=>hK _ _ ?_;obtain⟨h5,h6⟩:=(V.mono h3.mem h3.map).put hnt Y h1;refine⟨hc',(jh _ _ _).trans hds,M',ι',R,tV g1 ⟨dep,d,(sts i).hp.gen dep d,0⟩ bs,c,vq C.toRegB ho O hi hTS hx Y,h5,h6,h2,S.fwd.trans h3,S.le,λj oj hj s hcj=>(O j).2 (.inl (S.cut j oj hj s hcj)),λq hq=>?_,λq=>?_⟩
  ·by_cases hq1:X q=none
   ·by_cases hk : ∃k,k<bs.length/\q = { (⟨dep,d,(sts i).hp.gen dep d,0⟩:Ref)with k:=k}
    ·obtain⟨k,hk,e⟩:=hk;refine .inr ⟨i,N,(O i).2 (.inr rfl),?_,?_⟩
     ·rcases fQ i c with U | U
      ·have:=S.cut i o U ho (by omega);rw[hi]at this;cases this
      exact U
     subst e;refine⟨bM _,?_⟩;simp only;rw[hhp,aa.nj,if_pos ⟨rfl,rfl,by intro e;rw[e]at hk;simp at hk⟩];exact sg _
    exact absurd (h4 q hq1 λk hk' e=>hk ⟨k,hk',e⟩) hq
   rcases S.hand q hq1 with h | ⟨j,g1',g2,g3,g4⟩
   ·exact .inl h
   exact .inr ⟨j,g1',(O j).2 (.inl g2),g3,g4⟩
  by_cases hk:q.d=dep/\q.t=d/\q.g=(sts i).hp.gen dep d/\q.k<bs.length
  ·have hmk:makes sts i q:=(by obtain⟨k1,k2,k3,k4⟩:=hk;refine⟨by rw[k1,k2,k3];exact bM _,?_⟩;rw[hhp,aa.nj,if_pos ⟨k1,k2,by intro e;rw[e]at k4;simp at k4⟩,k3];exact sg _);refine⟨i+1,N,?_,λj hj hT=>?_⟩;·rw[hhp,aa.n8];unfold tV;rw[if_pos hk,if_pos hk]
   rw[O j];by_cases J:j=i;·subst J;simp
   have s:=kY hj;have hturn:turns sts i q:=(by obtain⟨k1,k2,k3,k4⟩:=hk;intro e;have h5:(sts i).hp.get q≠none:=(by rw[<-e,hhp,aa.n8];unfold tV;rw[if_pos ⟨k1,k2,k3,k4⟩,eu k4];simp);have:=Ph C A B D F (jw N) q h5;rw[k1,k2,k3]at this;exact absurd this (Cd _));have hnot : ¬j<i:=by
    intro hji';obtain⟨k1,k2,k3,k4⟩:=hk;have hlive : ∀m,m<=i->(sts m).hp.get q≠none->False:=by
     intro m hm W;have h6:=Ph C A B D F (wT hm (jw N)) q W;have h7:=tj C A B hm (jw N) q.d q.t;rw[k1,k2]at h6 h7;rw[k3]at h6;omega
    by_cases h8:(sts j).hp.get q=none;·exact hlive (j+1) hji' (λh9=>hT (by rw[h8,h9]))
    exact hlive j (jw hji') h8
   have:(L j=true↔j<i):=by
    obtain⟨n',k1,k2,k3⟩:=S.get q;have h9:=k3 i N hturn;rw[hi]at h9;have h10:=k3 j hj hT;rw[h10];constructor
    ·intro h11;have : ¬i<n':=λh=>by simpa using h9.2 h
     omega
    intro h11;exact absurd h11 hnot
   rw[this];constructor
   ·rintro(h | h);·omega
    exact absurd h J
   intro h;left;omega
  obtain⟨n',k1,k2,k3⟩:=S.get q;refine⟨n',k1,?_,λj hj hT=>?_⟩;·unfold tV;rw[if_neg hk];exact k2
  have J:j≠i:=(by intro e;subst e;refine hT ?_;rw[hhp,aa.n8];unfold tV;rw[if_neg hk]);rw[<-k3 j hj hT,O j];simp[J]
 cases hwt:wanted ops (sts i).tm o with| none=>unfold evalOp at step;rw[hwt]at step;cases step| some b=>
 cases b with| false=>exact hno hwt| true=>
 have hw1:=hwt;rw[<-hwd]at hw1;have hcs:cls E o=0\/cls E o=1\/cls E o=2\/cls E o=3\/cls E o=4:=by omega
 rcases hcs with Z | Z | Z | Z | Z
 ·rw[kF V hw1];simp only[if_true];have hh:=IU Z;rcases pg step with ⟨hw,_,_,_⟩ | ⟨hw,x,bs,hq,tm',ht,he⟩ | hwk
  ·rw[hwt]at hw;cases hw
  ·obtain⟨hbs,hall⟩:=yT hh hq;subst hbs;exact quiet (tm':=tm') (BC (.inl Z) step) (by rw[he];exact ht) (by rw[uL hag];exact hall _ _)
  rw[jd hwk]at hh;cases hh
 ·rw[kF V hw1];simp only[if_true];obtain⟨t,T,hst,hwk⟩:=L5 Z;rcases pg step with ⟨hw,_,_,_⟩ | ⟨hw,x,bs,hq,tm',ht,he⟩ | hwk'
  ·rw[hwt]at hw;cases hw
  ·obtain⟨hbs,hall⟩:=NI T hq;subst hbs;refine quiet (tm':=tm') (BC (.inr Z) step) (by rw[he];exact ht) ?_;rw[uL hag];refine hall g1 _ λq hrq W=>?_;refine(J4 C A B D F G I hc S ho hi hed (.inl Z) hst hrq W ?_).1;have ht1:dE tm1 t=dE (sts i).tm t:=by
    refine hlook t ?_;unfold Oper.looksAt;refine K4 _ (List.mem_filterMap.2 ⟨.tmp t,?_,rfl⟩);unfold Cx at T;split at T;·rename_i hop;cases T;rw[hop];simp[Op.operands]
    ·rename_i hop;cases T;rw[hop];simp[Op.operands]
    ·rename_i hop;cases T;rw[hop];simp[Op.operands]
    ·rename_i hop;split at T;·cases T
     cases T;rw[hop];simp[Op.operands]
    ·rename_i hop;cases T;rw[hop];simp[Op.operands]
    ·rename_i c hop;split at T
     ·split at T
      ·rename_i hargs;cases T;rw[hop];have:(Operand.tmp t)∈c.args:=by rw[<-Array.mem_toList_iff,hargs];simp
       simp only[Op.operands,Call.operands];simp[this]
      cases T
     cases T
    cases T
   have hv:=V.at_ t;rw[ht1]at hv;revert hrq hv;generalize dE (sts i).tm t=v;generalize a1.tmps.getD t undef=u;intro hrq hv;cases hv with
   | ptr hr hzl=>cases hrq;rw[hr];simp
   | ct hr=>cases hrq;rw[hr];simp
   | dsl hr=>cases hrq;rw[hr];simp
   | mp hr=>cases hrq;rw[hr];simp
   | ch hr=>cases hrq;rw[hr];simp
   | _=>cases hrq
  rw[hwk]at hwk';cases hwk'
 ·rw[kF V hw1];simp only[if_true];obtain⟨ty,t,xo,r,i',j',b,x,n,es',hop,hs,hta,hb,harr,hfr,hxo,hn,hxn,hx1,hes,he,hx⟩:=Q2 C A B D F I ho Z hwt;have hmem : ∀y,y = .tmp t\/y=xo->aW tm1 y=aW (sts i).tm y:=(by intro y hy;refine hag y ?_;rw[hop];rcases hy with rfl | rfl<;>simp[Op.operands]);have hpv:=bk V (x := .tmp t) (y := .ptr r i' j') (by rw[hmem _ (.inl rfl)];simp only[aW,hta]);have hxv:=bk V (x:=xo) (y:=x) (by rw[hmem _ (.inr rfl)];exact hxo);have hhand:X r≠none:=(by revert hpv;generalize a1.eval (.tmp t)=u;intro hpv;cases hpv with | ptr hr hzl=>rw[hr];simp);obtain⟨hg,hord⟩:=J4 C A B D F G I hc S ho hi hed (.inr Z) hs (q:=r) (by rw[hta];rfl) (by rw[hb];simp) hhand;rw[hb]at hg;obtain⟨w',hr,hS',hF'⟩:=MV (P:=E.P) S.sim hn hpv hxv hg hxn hx1 hfr harr hes;obtain⟨R,Y⟩:=mw (tm1:=tm1) hx;have hok:fI E.P o a1 w1 λu w2=>u=undef/\w2=w':=fI.Gw (by simp[execOp,hop,hr]) ⟨rfl,rfl⟩;refine hok ro K Q λu w2 ⟨e1,e2⟩=>hK _ _ ?_;subst e1;subst e2;obtain⟨h5,h6⟩:=(V.mono hF'.mem hF'.map).put hnt Y (u:=undef) (.v rfl);refine⟨hc',(jh _ _ _).trans hds,M1,X,R,mF g1 r { b with es:=es'},c,vq C.toRegB ho O hi hTS hx Y,h5,h6,hS',S.fwd.trans hF',S.le,λj oj hj s hcj=>(O j).2 (.inl (S.cut j oj hj s hcj)),λq hq=>?_,λq=>?_⟩
  ·rcases S.hand q hq with h | ⟨j,h1,h2,h3,h4⟩
   ·exact .inl h
   exact .inr ⟨j,h1,(O j).2 (.inl h2),h3,h4⟩
  by_cases hqr:q=r
  ·subst hqr;refine⟨i+1,N,?_,λj hj hT=>?_⟩;·rw[he,aa.ad,if_pos rfl];unfold mF;rw[if_pos rfl]
   rw[O j];by_cases J:j=i;·subst J;simp
   rw[hord j hj hT];constructor
   ·rintro(h | h);·omega
    exact absurd h J
   intro h;left;omega
  obtain⟨n',h1,h2,h3⟩:=S.get q;refine⟨n',h1,?_,λj hj hT=>?_⟩;·unfold mF;rw[if_neg hqr];exact h2
  have J:j≠i:=(by intro e;subst e;refine hT ?_;rw[he,aa.ad,if_neg hqr]);rw[<-h3 j hj hT,O j];simp[J]
 ·rw[kF V hw1];simp only[if_true];obtain⟨hh,hwk⟩:=BQ Z;rcases pg step with ⟨hw,_,_,_⟩ | ⟨hw,x,bs,hq,tm',ht,he⟩ | hwk'
  ·rw[hwt]at hw;cases hw
  ·obtain⟨d,hd⟩:=iB.1 (C.made i o ho Z);rw[hd,cU]at hq he;have hx:dP nt (sts i).tm o.dst x=some (sts (i+1)).tm:=by rw[he];exact ht
   obtain⟨R,Y⟩:=mw (tm1:=tm1) hx;have hhp:(sts (i+1)).hp=keyed ⟨dep,d,(sts i).hp.gen dep d,0⟩ 0 bs (sts i).hp:=by rw[he]
   have hloc:blind E o=false->Ep X (sts i).hp.get g1:=by
    intro hbl q b hg W;rw[<-hg];refine S.OC (jw N) λj hj hT=>?_;have s:=kY hj;rcases HE C A B D F I s hT with hm | ⟨hcj,_⟩
    ·exact DW C A B D F S N hi (by rw[hg];simp) W hj hm
    exact uF C hc ho hi hed (by omega) s (.inl hbl) ⟨Tr hbl,pG (by omega)⟩ (by omega)
   rw[<-uL hag]at hq;have hq':dq E pc true g1 tm1 ⟨dep,d,(sts i).hp.gen dep d,0⟩ o=some (x,bs):=by
    cases hbl:blind E o with| true=>exact Xd hbl hq| false=>exact Fh S.sim (hloc hbl) V hq
   have hfree : ∀k,X { (⟨dep,d,(sts i).hp.gen dep d,0⟩:Ref)with k:=k}=none:=by
    intro k;cases hqk:X { (⟨dep,d,(sts i).hp.gen dep d,0⟩:Ref)with k:=k} with
    | none=>rfl
    | some l=>
     exfalso;rcases S.hand _ (by rw[hqk];simp)with h | ⟨j,h1,h2,h3,h4⟩
     ·simp only at h;rcases fQ i c with U | U
      ·have:=S.cut i o U ho (by omega);rw[hi]at this;cases this
      have:=tj C A B U (jw N) dep d;omega
     have s:=kY h1;have h5:=h4.1;have h6:=h4.2;simp only at h5 h6;rcases EA j i with J | J | J
     ·have:=tj C A B (show j+1<=i from J) (jw N) dep d;omega
     ·subst J;rw[hi]at h2;cases h2
     have hcj:=A8 C A B s h4;have hc4:cls E ops[j]=3\/cls E ops[j]=4:=by have:=Fj E ops[j];omega
     rcases hc4 with hc3 | hc4
     ·obtain⟨dj,hdj⟩:=iB.1 (C.made j _ s hc3);have hstepj:=A j _ s;have W:d≠dj:=(by intro e;have:=C.distinct i j o ops[j] d ho s hd (by rw[hdj,e]);omega);rcases pg hstepj with ⟨_,_,_,he2⟩ | ⟨_,_,bs2,_,_,_,he2⟩ | hwk2
      ·rw[he2]at h6;dsimp only at h6;omega
      ·rw[he2]at h6;simp only[hdj,cU]at h6;rw[aa.nj,if_neg (by intro hcc;exact W hcc.2.1)]at h6;omega
      rw[(BQ hc3).2]at hwk2;cases hwk2
     cases hha:pH E o ops[j] with
     | true=>
      have W:=P8 (E:=E) (ye.1 hha).1 hq;have hmk:makes sts i { (⟨dep,d,(sts i).hp.gen dep d,0⟩:Ref)with k:=k}:=⟨bM _,by
       simp only;rw[hhp,aa.nj,if_pos ⟨rfl,rfl,W⟩];exact sg _⟩
      have:=E8 C A B h1 N h4 hmk;omega
     | false=>have:=(uF C hc ho hi hed (by omega) s (.inr (by omega)) ⟨hha,pG (by omega)⟩ (.inr (.inl hc4))).1 h2;omega
   exact maker (by omega) hhp hx hq' hfree
  rw[hwk]at hwk';cases hwk'
 have hb4:blind E o=false:=by unfold blind;rw[Z];rfl
 cases hat:((I4 o.op).isSome&&o.dst.isSome) with
 | true=>
  rw[kF V hw1];simp only[if_true];obtain⟨hat1,hat2⟩:=ye.1 hat;obtain⟨t,ht⟩:=iB.1 hat1;obtain⟨d,hd⟩:=iB.1 hat2;have hloc:Ep X (sts i).hp.get g1:=by
   intro q b hg W;rw[<-hg];refine S.OC (jw N) λj hj hT=>?_;have s:=kY hj;rcases HE C A B D F I s hT with hm | ⟨hcj,_⟩
   ·exact DW C A B D F S N hi (by rw[hg];simp) W hj hm
   exact uF C hc ho hi hed (by omega) s (.inl hb4) ⟨pG (by omega),pG (by omega)⟩ (by omega)
  rcases Si ht hwt step with ⟨x,bs,tm',hq,hx,he⟩ | ⟨c',y,z,x,hop,hcal,hargs,hA,hy,hx⟩
  ·rw[hd,cU]at hq he;have hx2:dP nt (sts i).tm o.dst x=some (sts (i+1)).tm:=by rw[he];exact hx
   have hhp:(sts (i+1)).hp=keyed ⟨dep,d,(sts i).hp.gen dep d,0⟩ 0 bs (sts i).hp:=(by rw[he]);rw[<-uL hag]at hq;refine maker (by omega) hhp hx2 (Fh S.sim hloc V hq) λk=>?_;cases hqk:X { (⟨dep,d,(sts i).hp.gen dep d,0⟩:Ref)with k:=k} with
   | none=>rfl
   | some l=>
    exfalso;rcases S.hand _ (by rw[hqk];simp)with h | ⟨j,h1,h2,h3,h4⟩
    ·simp only at h;rcases fQ i c with U | U
     ·have:=S.cut i o U ho (by omega);rw[hi]at this;cases this
     have:=tj C A B U (jw N) dep d;omega
    have s:=kY h1;have h5:=h4.1;have h6:=h4.2;simp only at h5 h6;rcases EA j i with J | J | J
    ·have:=tj C A B (show j+1<=i from J) (jw N) dep d;omega
    ·subst J;rw[hi]at h2;cases h2
    have hcj:=A8 C A B s h4;have hc4:cls E ops[j]=3\/cls E ops[j]=4:=by have:=Fj E ops[j];omega
    rcases hc4 with hc3 | hc4
    ·obtain⟨dj,hdj⟩:=iB.1 (C.made j _ s hc3);have hstepj:=A j _ s;have W:d≠dj:=(by intro e;have:=C.distinct i j o ops[j] d ho s hd (by rw[hdj,e]);omega);rcases pg hstepj with ⟨_,_,_,he2⟩ | ⟨_,_,bs2,_,_,_,he2⟩ | hwk2
     ·rw[he2]at h6;dsimp only at h6;omega
     ·rw[he2]at h6;simp only[hdj,cU]at h6;rw[aa.nj,if_neg (by intro hcc;exact W hcc.2.1)]at h6;omega
     rw[(BQ hc3).2]at hwk2;cases hwk2
    have:=(uF C hc ho hi hed (by omega) s (.inr (by omega)) ⟨pG (by omega),pG (by omega)⟩ (.inr (.inl hc4))).1 h2;omega
  have hmapM:c'.args.toList.mapM (aW tm1)=some [y,z]:=by
   rw[<-hargs];refine mapM_congr λa ha=>hag a ?_;rw[hop];have:a∈c'.args:=by simpa using ha
   simp[Op.operands,Call.operands,this]
  have hvs:=nk V hmapM;obtain⟨u,v,hu1⟩:=wM hvs.1.symm;rw[hu1]at hvs;have vy:=hvs.2 0 y u rfl rfl;have vz:=hvs.2 1 z v rfl rfl;have hnew0 : ∀r',lT y=some r'->(sts i).hp.get r'≠none->makes sts i ⟨r'.d,r'.t,(sts i).hp.gen r'.d r'.t,0⟩:=(by intro r' hr' W;obtain⟨r2,b2,z2,es2,f2,e1,e2,e3,e4⟩:=Ci hA;rw[hr']at e1;cases e1;refine⟨bM _,?_⟩;simp only;rw[e4,Mh (by rw[e2];rfl),if_pos ⟨rfl,rfl⟩];exact sg _);have hrefs : ∀r',lT y=some r'->X r'≠none:=by
   intro r' hr';revert vy hr';generalize y=v;intro vy hr';cases vy with
   | ptr hr hzl=>cases hr';rw[hr];simp
   | ct hr=>cases hr';rw[hr];simp
   | dsl hr=>cases hr';rw[hr];simp
   | mp hr=>cases hr';rw[hr];simp
   | ch hr=>cases hr';rw[hr];simp
   | _=>cases hr'
  obtain⟨r',b,k',e1,e2,hqr,e3,u',w',ι',hr',hv',hS',hF',hι'⟩:=MB (P:=E.P) (ty:=o.type) (H:=(sts i).hp) S.sim vy vz (λr' hr' W=>by
   cases hb:(sts i).hp.get r' with| none=>exact absurd hb W| some b=>exact hloc r' b hb (hrefs r' hr')) (λe p hp=>Kp hloc vz hp) (λr' hr' W=>by
   cases hqk:X ⟨r'.d,r'.t,(sts i).hp.gen r'.d r'.t,0⟩ with| none=>rfl| some l=>
    exfalso;rcases S.hand _ (by rw[hqk];simp)with h | ⟨j,h1,h2,h3,h4⟩
    ·simp only at h;rcases fQ i c with U | U
     ·have:=S.cut i o U ho (by omega);rw[hi]at this;cases this
     have:=tj C A B U (jw N) r'.d r'.t;omega
    have:=E8 C A B h1 N h4 (hnew0 r' hr' W);subst this;rw[hi]at h2;cases h2) hA
  have hmk:=hnew0 r' e1 (by rw[e2];simp);obtain⟨R,Y⟩:=mw (tm1:=tm1) hx;have hok:fI E.P o a1 w1 λu2 w2=>u2=u'/\w2=w':=(by refine fI.kN ?_ ⟨rfl,rfl⟩;have hsame:c'.args.map a1.eval = #[u,v]:=(by apply KW.1;rw[Array.toList_map,hu1]);simp only[execOp,hop,resolve,hcal,invoke,iQg,iQj,iQd,hsame];show(do pure (Next.value (<-Builtin.append_ c'.argTypes o.type #[u,v])):Sem Next).run E.P w1=_;exact HU hr');refine hok ro K Q λu2 w2 ⟨f1,f2⟩=>hK _ _ ?_;subst f1;subst f2;obtain⟨h5,h6⟩:=(V.mono hF'.mem hF'.map).put hnt Y hv';refine⟨hc',(jh _ _ _).trans hds,M1,ι',R,_,c,vq C.toRegB ho O hi hTS hx Y,h5,h6,hS',S.fwd.trans hF',S.le,λj oj hj s hcj=>(O j).2 (.inl (S.cut j oj hj s hcj)),λq hq=>?_,λq=>?_⟩
  ·by_cases hqq:q=⟨r'.d,r'.t,(sts i).hp.gen r'.d r'.t,0⟩
   ·refine .inr ⟨i,N,(O i).2 (.inr rfl),?_,by rw[hqq];exact hmk⟩;rcases fQ i c with U | U
    ·have:=S.cut i o U ho (by omega);rw[hi]at this;cases this
    exact U
   by_cases hq1:X q=none;·exact absurd (hι' q hq1 hqq) hq
   rcases S.hand q hq1 with h | ⟨j,g1',g2,g3,g4⟩
   ·exact .inl h
   exact .inr ⟨j,g1',(O j).2 (.inl g2),g3,g4⟩
  have hat3:(sts (i+1)).hp.get q=mF (tx (sts i).hp.get r') ⟨r'.d,r'.t,(sts i).hp.gen r'.d r'.t,0⟩ k' q:=(by rw[e3,get_append _ _ _ _ hqr]);by_cases hqq:q=⟨r'.d,r'.t,(sts i).hp.gen r'.d r'.t,0⟩
  ·refine⟨i+1,N,by rw[hat3];unfold mF;rw[if_pos hqq,if_pos hqq],λj hj hT=>?_⟩;rw[O j];by_cases J:j=i;·subst J;simp
   have hturn:turns sts i q:=by
    intro e;have h5:(sts i).hp.get q≠none:=by
     rw[<-e,hat3];unfold mF;rw[if_pos hqq];simp
    have:=Ph C A B D F (jw N) q h5;rw[hqq]at this;exact absurd this (Cd _)
   have hnot : ¬j<i:=by
    intro hji';have hlive : ∀m,m<=i->(sts m).hp.get q≠none->False:=by
     intro m hm W;have h6:=Ph C A B D F (wT hm (jw N)) q W;have h7:=tj C A B hm (jw N) q.d q.t;rw[hqq]at h6 h7;simp only at h6 h7;omega
    by_cases h8:(sts j).hp.get q=none;·exact hlive (j+1) hji' (λh9=>hT (by rw[h8,h9]))
    exact hlive j (jw hji') h8
   have:(L j=true↔j<i):=by
    obtain⟨n',k1,k2,k3⟩:=S.get q;have h9:=k3 i N hturn;rw[hi]at h9;have h10:=k3 j hj hT;rw[h10];constructor
    ·intro h11;have : ¬i<n':=λh=>by simpa using h9.2 h
     omega
    intro h11;exact absurd h11 hnot
   rw[this];constructor
   ·rintro(h | h);·omega
    exact absurd h J
   intro h;left;omega
  by_cases hqr2:q=r'
  ·refine⟨i+1,N,by rw[hat3];unfold mF tx;rw[if_neg hqq,if_neg hqq,if_pos hqr2,if_pos hqr2],λj hj hT=>?_⟩;rw[O j];by_cases J:j=i;·subst J;simp
   have s:=kY hj;have:(L j=true↔j<i):=by
    rcases HE C A B D F I s hT with hm | ⟨hcj,_⟩
    ·exact DW C A B D F S N hi (by rw[hqr2,e2];simp) (by rw[hqr2];exact hrefs r' e1) hj hm
    exact uF C hc ho hi hed (by omega) s (.inl hb4) ⟨pG (by omega),pG (by omega)⟩ (by omega)
   rw[this];constructor
   ·rintro(h | h);·omega
    exact absurd h J
   intro h;left;omega
  obtain⟨n',k1,k2,k3⟩:=S.get q;refine⟨n',k1,?_,λj hj hT=>?_⟩;·unfold mF tx;rw[if_neg hqq,if_neg hqr2];exact k2
  have J:j≠i:=(by intro e;subst e;refine hT ?_;rw[hat3];unfold mF tx;rw[if_neg hqq,if_neg hqr2]);rw[<-k3 j hj hT,O j];simp[J]
 | false=>
 have hha : ∀oj,pH E o oj=false/\pH E oj o=false:=λoj=>⟨pG (by omega),Ts hat⟩;have hall : ∀q j,j<ops.size->turns sts j q->(L j=true↔j<i):=by
  intro q j hj hT;have s:=kY hj;refine uF C hc ho hi hed (by omega) s (.inl hb4) (hha _) ?_;rcases HE C A B D F I s hT with hm | ⟨hcj,_⟩
  ·exact .inr (.inr ⟨Z,A8 C A B s hm⟩)
  omega
 have hg:g1=(sts i).hp.get:=funext λq=>S.OC (jw N) (hall q);have hD:uq X (sts i).hp:=by
  intro q l hq;rcases S.hand q (by rw[hq];simp)with h | ⟨j,h1,h2,h3,h4⟩
  ·rcases fQ i c with U | U
   ·have:=S.cut i o U ho (by omega);rw[hi]at this;cases this
   exact AE h (tj C A B U (jw N) _ _)
  have s:=kY h1;have J:=(uF C hc ho hi hed (by omega) s (.inl hb4) (hha _) (.inr (.inr ⟨Z,A8 C A B s h4⟩))).1 h2;exact AE h4.2 (tj C A B (show j+1<=i from J) (jw N) _ _)
 have hO:z7 M1 X ⟨tm1,(sts i).hp⟩ nt a1 w1:=⟨by rw[<-hg];exact S.sim,hD,V,hnt⟩;obtain⟨x,R,hx,Y,hev⟩:=KB hlook step;refine Fi (E:=E) (Q:=Q) hO hpc htc (λh=>by cases h) (.inl rfl) hev λa' w' ⟨⟨M',ι',hO',hF'⟩,hd'⟩=>hK a' w' ⟨hc',hd'.trans hds,M',ι',R,(sts (i+1)).hp.get,i+1,vq C.toRegB ho O hi hTS hx Y,hO'.tr,hO'.nt,hO'.sim,?_,N,?_,?_,?_⟩;·have:=S.fwd;rw[hg]at this;exact this.trans hF'
 ·intro j oj hj s hcj;by_cases J:j=i;·exact(O j).2 (.inr J)
  exact(O j).2 (.inl ((uF C hc ho hi hed (by omega) s (.inl hb4) (hha _) (.inr (.inr ⟨Z,hcj⟩))).2 (by omega)))
 ·intro q hq;cases hqq:ι' q with
  | none=>exact absurd hqq hq
  | some l=>exact .inl (hO'.dom q l hqq)
 intro q;refine⟨i+1,N,rfl,λj hj hT=>?_⟩;rw[O j];by_cases J:j=i;·subst J;simp
 rw[hall q j hj hT];constructor
 ·rintro(h | h);·omega
  exact absurd h J
 intro h;left;omega
omit D F G I in
theorem NJ{L:Nat->Bool}(d : ∀i,i<ops.size->L i=true){a a1:Act}{J:World}(v:a.defers=ds)(Q:Xx E nt ops sts M ι w ds L a1 J):lB M ι (sts 0) a w nt (sts ops.size) a1 J:=by
 obtain⟨S,u,z,k,tm1,g1,c,n,p,s,f⟩:=Q;have m : ∀t,dE tm1 t=dE (sts ops.size).tm t:=by
  intro t;obtain⟨x,N⟩:=n t;obtain⟨O,y⟩:=Lt C.toRegB A ops.size (bM _) t;by_cases e : ∃j,j<ops.size/\j2 ops j=some t;·obtain⟨j,b,hd⟩:=e;rw[x j b (d j b) hd,O j b (by simpa using b) hd]
  rw[N λj b _ hd=>e ⟨j,b,hd⟩,y λj b _ hd=>e ⟨j,b,hd⟩]
 have g:TR z k (sts ops.size).tm a1:=⟨λt=>by rw[<-m];exact p.at_ t⟩;have K:g1=(sts ops.size).hp.get:=funext λq=>f.OC (bM _) λj b _=>⟨λ_=>b,λ_=>d j b⟩;refine⟨⟨z,k,⟨by rw[<-K];exact f.sim,?_,g,s⟩,by rw[<-K];exact f.fwd⟩,u.trans v.symm⟩;intro q l R;rcases f.hand q (by rw[R];simp)with h | ⟨j,x,_,_,y⟩
 ·exact AE h (tj C A B f.le (bM _) _ _)
 exact AE y.2 (tj C A B (show j+1<=ops.size from x) (bM _) _ _)
theorem Zo(U : ∀f s y,pc f s=some y->kE E.P f s y)(htc : ∀f s H y H',tc f s H=some (y,H')->nH E.P f s H y H'){ro:Option Nat}{a0:Act}(J:a0.defers=ds){Q:Exit->Act->World->Prop}
 (hQ : ∀R w',lB M ι (sts 0) a0 w nt (sts ops.size) R w'->Q .normal R w') : ∀(b:Nat)(a:Array Bool)(a1:Act)(N:World),a.size=ops.size ->
 (List.range ops.size).countP (λi => !a.getD i false)<=b->Xx E nt ops sts M ι w ds (λi=>a.getD i false) a1 N->wpAnyIn (FW ro) 0 E.P .any ops Q b a a1 N:=by
 have De : ∀ {a:Array Bool},a.size=ops.size->Region.ready .any ops a=[] ->∀i,i<ops.size->a.getD i false=true:=by
  intro a g h i;induction i using Nat.strongRecOn with | ind i Z=>
  intro hi;cases u:a.getD i false with
  | true=>rfl
  | false=>
   exfalso;have k:=kY hi;have X:a.getD i true=false:=by
    have:i<a.size:=(by omega);simpa [Array.getD,this] using u
   have:i∈Region.ready .any ops a:=(by rw[iQw];refine⟨X,_,k,λe S hb=>?_⟩;have t:e.on∈gf ops[i]:=(by unfold gf;exact mo.2 ⟨e,KS.2 ⟨by simpa using S,hb⟩,rfl⟩);have c:=C.edges i _ k _ t;exact Z e.on c (by omega));rw[h]at this;cases this
 intro b;induction b with
 | zero=>
  intro a a1 N g hf O;have l : ∀i,i<ops.size->a.getD i false=true:=by
   intro i hi;cases u:a.getD i false with
   | true=>rfl
   | false=>exfalso;have:0<(List.range ops.size).countP (λi => !a.getD i false):=List.countP_pos_iff.2 ⟨i,xZ.2 hi,by rw[u];rfl⟩;omega
  refine⟨?_,hQ _ _ (NJ C A B l J O)⟩;refine Ui.2 λi hi=>?_;rw[iQw]at hi;obtain⟨z,o,k,_⟩:=hi;have c:i<ops.size:=(jx.1 k).1;have T:=l i c;have:i<a.size:=by omega
  simp[Array.getD,this]at z T;rw[T]at z;cases z
 | succ b Z=>
  intro a a1 N g hf O;refine⟨λhr=>hQ _ _ (NJ C A B (De g hr) J O),λi hi=>?_⟩;rw[iQw]at hi;obtain⟨z,o,k,Y⟩:=hi;have c:i<ops.size:=(jx.1 k).1;have v:i<a.size:=by omega
  have x:a.getD i false=false:=(by simpa [Array.getD,v] using z);have m : ∀e∈gf o,(λi=>a.getD i false) e=true:=(by intro e S;unfold gf at S;obtain⟨d,hd,rfl⟩:=mo.1 S;obtain⟨T,h2⟩:=KS.1 hd;exact Y d (by simpa using T) h2);have q : ∀j,(λj=>(a.setIfInBounds i true).getD j false) j=true↔((λj=>a.getD j false) j=true\/j=i):=by
   intro j;simp only;by_cases n:j=i;·subst n;simp[v]
   rw[getD_set_ne false (tC n)];simp[n]
  have:=Tm (E:=E) (tc:=tc) (ro:=ro) (K:=wpAnyIn (FW ro) 0 E.P .any ops Q b (a.setIfInBounds i true)) (Q:=Q) C A B D F G I U htc (L:=λi=>a.getD i false) k x m q O λR w' hI'=>by
   refine Z _ R w' (by simp[g]) ?_ hI';have:=FV (p:=λj => !a.getD j false) (p':=λj => !(a.setIfInBounds i true).getD j false) (i:=i) (λj W=>by
    simp only[ij]at W ⊢;cases u:a.getD j false with
    | false=>rfl
    | true=>have:=(q j).2 (.inl u);simp only at this;rw[this]at W;cases W) (by simp only[x,zm]) (by have:=(q i).2 (.inr rfl);simp only at this ⊢;rw[this];rfl) (List.range ops.size) (xZ.2 c)
   omega
  unfold wpOpIn;rw[k];simp only;split;·rename_i V;rw[if_pos V]at this;exact this
  rename_i V;rw[if_neg V]at this;exact⟨λ_ _=>trivial,this⟩
end
def Og{E:Env}(R:E.P.follows .mixedOrders=true){ops:Array Oper}(b:Wm E ops=true){pc:FuncId->List AV->Option AV}(s : ∀f e y,pc f e=some y->kE E.P f e y)
 {tc:vl->List AV->aa->dA} (n : ∀f e H y z,tc f e H=some (y,z)->nH E.P f e H y z) {nt dep id:Nat} {st st':St} {M:Mem} {ι:Map} {a:Act} {w:World} {ro:Option Nat} {Q:Exit->Act->World->Prop}
 (h:oI E pc tc nt dep true ops ops.toList st=some st') (G:uh E ops st'=true) (d:z7 M ι st nt a w) (O : ∀x w',lB M ι st a w nt st' x w'->Q .normal x w'):(Code.region id ops true).wpIn (FW ro) 0 E.P Q a w:=by
 obtain⟨sts,L,v,K⟩:=HW ops.toList st st' h;rw[Cg]at v;have C:=Zl b;have A : ∀i o,ops[i]?=some o->evalOp E pc tc nt dep true ops o (sts i)=some (sts (i+1)):=λi o N=>K i o (by simpa using N);subst L;subst v;have p:(sK E ops).isEmpty=false:=by
  unfold Wm at b;rw[bI]at b;simpa using b.1
 unfold uh at G;rw[p,Cc,bI,bI]at G;refine wpIn_region_any R ?_;have u:vg M ι (sts 0).hp.get w M ι (sts 0).hp.get { w with drawn:=w.drawn+1} :=
  ⟨rfl,rfl,rfl,bM _,λ_ _ _=>rfl,λ_ _ _ h=>h,λ_ _ h=>h,λr k l h J => .inr ⟨r,k,l,h,J,rfl⟩,λ_ _ _ h => .inl h⟩
 have c : ∀i,(Array.replicate ops.size false).getD i false=false:=by
  intro i;simp only[Du,O1];split<;>rfl
 refine Zo (tc:=tc) (M:=M) (ι:=ι) (w:=w) (a0:=a) C A G.2.2 d.sim d.dom G.1 G.2.1 s n rfl O ops.size _ a _ (by simp) ?_ ?_;·exact wT iQK (by simp)
 refine⟨λi o hi=>?_,rfl,M,ι,(sts 0).tm,(sts 0).hp.get,0,?_,d.tr,d.nt,d.sim.drew rfl,u,Ae _,λj o m=>absurd m (Nat.not_lt_zero _),λq S=>?_,λq=>⟨0,Ae _,rfl,λj _ _=>⟨λm=>?_,λm=>absurd m (Nat.not_lt_zero _)⟩⟩⟩;·exact absurd ((c i).symm.trans hi) (by simp)
 ·exact λt=>⟨λi _ hi=>absurd ((c i).symm.trans hi) (by simp),λ_=>rfl⟩
 ·cases g:ι q with| none=>exact absurd g S| some l=>exact .inl (d.dom q l g)
 exact absurd ((c j).symm.trans m) (by simp)
end
end Go.Ab
namespace Go.Ab
open Go.ChangeShapes Go.WideShapes Go.RowKit
structure Kept (W W':World):Prop where
 os:W'.os=W.os
 output:W'.output=W.output
 size:W.heap.size<=W'.heap.size
 old : ∀b,b<W.heap.size->W'.heap[b]?=W.heap[b]?
def Kept.keptBut{W a:World}(h:Kept W a)(may:MemPlace->Prop):W.keptBut a may:=by
 refine⟨h.os,h.output,λi hi=>?_⟩;rw[h.old i hi];have:=kY hi;rw[this];cases W.heap[i]<;>simp
def Kept.frozen{W b:World}(h:Kept W b){a:Addr}(c:a.block<W.heap.size):b.frozen? a=W.frozen? a:=by
 unfold World.frozen?;rw[h.old _ c]
def Kept.same{W a:World}(h:Kept W a){p:MemPlace}(hp:p.block<W.heap.size):W.sameAt a p:=by
 cases p with| cell b off=>exact iQk (h.old b hp)| map b=>exact h.old b hp
section
variable{H:Type}{enc:TypeId × Value->H}{P:Program}
def Lu{T:TypeId->Prop}(K:Kids P T)(y : ∀t e,T t->P.underlying t=some (.slice e)->0<P.cellsOf e){W g:World}(N:Kept W g){l:Nat->Bool}{a:Nat} : ∀ {b:List TypeId} {c:List Value} {ds:List (DataW H)} {ps:List MemPlace},(∀t∈b,T t) ->
 DataW.TrodAll enc P W a (λ_=>true) true b c ds ps->(∀p∈ps,l p.block=true)->DataW.TrodAll enc P g a l true b c ds ps:=by
 intro b c ds ps k h m;have s:=h.respare K y k m;have j:=h.lt;clear h m k;induction b generalizing c ds ps with
 | nil=>obtain⟨rfl,rfl,rfl⟩:=trodAll_nil s;exact trodAll_mk0
 | cons t b L=>obtain⟨v,z,d,O,p,q,rfl,rfl,rfl,⟨n,J⟩,u⟩:=trodAll_cons s;refine⟨p,q,⟨n,DataW.trod_carry n t _ _ J λx f=>N.same (j x (K4 _ f))⟩,L u λx f=>j x (List.mem_append_right _ f),rfl⟩
def Ta{T:TypeId->Prop}(K:Kids P T)(Z : ∀t e,T t->P.underlying t=some (.slice e)->0<P.cellsOf e){f:Func}{s:ChangeSpec}{apart fresh c again:Bool}{W m:World}{args:Array Value}{ds Y:List (DataW H)}{d:List MemPlace}
 (hT : ∀t∈f.params.toList,T t) (z:s.vars=[]) (X:DataW.Whole enc P f.params.toList s.vars apart W args.toList ds Y d) (hs:s.fn H ds = { results:=[.lit (.bool true)],args:=ds})
 {S:TypeId} (U:f.resultTypes = #[S]) (Q:P.underlying S=some .bool) (N:Kept W m):s.post enc P f apart fresh c again W args (.bool true) m:=by
 have J:=X;obtain⟨p,q,V,R,rfl,u,v⟩:=J;rw[z]at R;obtain⟨rfl,rfl⟩:=trodVars_none R;have y:=V.lt;have k:s.fn H (ds++[]) = { results:=[.lit (.bool true)],args:=ds}:=by rw[tg];exact hs
 have h : ∀(b:Nat)(g:Nat->Bool)(hd:Bool),DataW.TrodAll enc P m b g hd f.resultTypes.toList ((Value.bool true).resultList f.resultTypes.size) (s.fn H (ds++[])).results []:=by
  intro b g hd;rw[U,k];exact trodAll_mk1 (shut_bool Q true)
 have a : ∀g:Nat->Bool,(∀x∈p,g x.block=true)->DataW.TrodAll enc P m 0 g true f.params.toList args.toList (s.fn H (ds++[])).args p:=by
  intro g L;rw[k];exact Lu K Z N hT V L
 have l : ∀g:Nat->Bool,DataW.TrodVars enc P m g s.vars (s.fn H (ds++[])).vars []:=by
  intro g;rw[z,k];rfl
 rw[tg]at v u;refine⟨ds,[],p++[],[],p,[],X,h _ _ _,a _ (λx O=>by simpa using y x O),l _,N.keptBut _,λ_=>?_⟩;have j:=trodAll_append (a (λ_=>true) (λ_ _=>rfl)) (h 0 (λ_=>true) true);rw[tg]at j;refine⟨ok_one U rfl (okWide_bool_mk Q true),_,[],p++[],⟨p,[],j,(by rw[z];rfl),rfl,?_,?_⟩,λx O _=>O⟩;·intro b n hp;rw[tg]at hp;rw[N.frozen (show(⟨b,n,none⟩:Addr).block<W.heap.size from y _ hp)];exact u b n hp
 intro ha;rw[tg];exact v ha
end
def Qt{E:Env}{ok:Array Oper->Bool}(k:E.Ok ok){n:Nat}{f:FuncId}{g:List AV}(h:dO E (cR E n) f g=some (.v (.bool true))){W:World}{us:List Value}
 (j:mM (λb o=>W.cell? ⟨b,o,none⟩) eM g us):Calls E.P f us.toArray W λe c=>e = .returned (.bool true)/\Kept W c:=by
 refine((RU k h).2 _ W us (λ_ _ _ h=>h) j).mono λe c ⟨v,M',he,hend⟩=>?_;obtain⟨ls,l,d,_⟩:=hend.res ⟨0,0,0,0⟩;have a:aw ⟨0,0,0,0⟩ depth (.v (.bool true)) []=(.v (.bool true),[]):=xj _ depth 1 _ _ rfl;rw[a]at d;cases d;exact⟨he,hend.os,hend.output,hend.size,hend.old⟩
def IJ(E:Env)(l:List FuncId):Bool:=l.all λf=>match E.P.funcs[f]? with
 | some fn => !(fn.name == "runtime.NumGoroutine")&&(match fn.body with | some c=>codeOk (Da E) c | none=>true)
 | none=>false
def ahn(ops:Array Oper)(i:Nat):Nat:=match ops[i]? with
 | some o=>(match o.dst with | some d=>d | none=>0)
 | none=>0
def yI:List (Nat × Nat × Nat × List (Tmp × Tmp))->Array Oper->List (Tmp × Tmp)
 | [],_=>[]
 | (a,b,c,l) :: d,ops=>cond (Nat.beq b ops.size) (cond (Nat.beq a (ahn ops 0)) (cond (Nat.beq c (ahn ops (b - 1))) l (yI d ops)) (yI d ops)) (yI d ops)
def Sg(e:List (Nat × Nat × Nat))(o:Oper):Bool:=match o.op with
 | .call c=>(match c.callee with
  | .builtin .append=>(match o.dst,c.args.toList with
   | some d,[.tmp a,.tmp b]=>e.any λ(x,y,z)=>Nat.beq x d&&Nat.beq y a&&Nat.beq z b
   | _,_=>false)
  | .value (.tmp t)=>(match o.dst with
   | some d=>e.any λ(x,y,z)=>Nat.beq x d&&Nat.beq y t&&Nat.beq z 66666
   | none=>false)
  | .builtin .len=>(match o.dst with
   | some d=>e.any λ(x,y,z)=>Nat.beq x d&&Nat.beq y 0&&Nat.beq z 55555
   | none=>false)
  | _=>false)
 | .buildSlice _ n _=>(match o.dst with
  | some d=>e.any λ(x,y,z)=>Nat.beq x d&&Nat.beq y n&&Nat.beq z 77777
  | none=>false)
 | _=>false
def Wc:Option Operand->Bool
 | some (.const (.slice none 0 0))=>true
 | _=>false
def acL(o:Oper):Bool:=match o.op with
 | .call c=>(match c.callee with
  | .builtin .append=>Wc c.args[0]?
  | _=>false)
 | _=>false
def Pg(a:List (Nat × Nat × Nat))(o:Oper):Bool:=match o.op with
 | .buildSlice _ n _=>(match o.dst with
  | some d=>a.any λ(x,y,z)=>Nat.beq x d&&Nat.beq y n&&Nat.beq z 88888
  | none=>false)
 | .call c=>(match o.dst with
  | some d=>a.any λ(x,y,z)=>Nat.beq x d&&((Nat.beq y 0&&Nat.beq z 88888)||(Nat.beq z 88889&&(match c.callee with
   | .value (.func g)=>Nat.beq g y
   | _=>false)))
  | none=>false)
 | _=>false
def HG(a:List (Nat × Nat × Nat))(o:Oper):Bool:=acL o||Sg a o
def ZO(P:Program)(l bT kp:List FuncId)(strict:Oper->Bool)(apart:Array Oper->List (Tmp × Tmp))(jq:Oper->Bool:=λ_=>false):Env := { jq:=jq,P:=P,strict:=strict,apart:=apart,mode:=λf=>if bT.contains f then (if kp.contains f then 3 else 1) else if kp.contains f then 2 else 0,allowed:=λf=>l.contains f,spec:=λ_ _=>none}
def xm(P:Program)(l bT kp:List FuncId)(strict:Oper->Bool:=λ_=>false)(apart:Array Oper->List (Tmp × Tmp):=λ_=>[])(jq:Oper->Bool:=λ_=>false)(Gf:List (FuncId × List AV × AV):=[])(wide:Oper->Bool:=λ_=>false)(su:FuncId->Option TypeId:=λ_=>none)(thrSpec:FuncId->List AV->aa->Option (AV × aa):=λ_ _ _=>none)(sm:OE:=P1):Env:=
 {jq:=jq,P:=P,strict:=strict,apart:=apart,mode:=λf=>if bT.contains f then (if kp.contains f then 3 else 1) else if kp.contains f then 2 else 0,allowed:=λf=>l.contains f,spec:=LV Gf,ok:=Da (ZO P l bT kp strict apart jq),wide:=wide,su:=su,thrSpec:=thrSpec,sm:=sm}
def Xi : ∀(n:Nat)(x y:AV),KH n x y=true->x=y:=by
 intro n;induction n with
 | zero=>intro x y h;simp[KH]at h
 | succ n a=>
  intro x y h;unfold KH at h;split at h;·rw[MC h]
  ·simp only[bI]at h;rw[sL a _ _ (lF h.1) h.2]
  ·simp only[bI,iQb]at h;rw[sL a _ _ (lF h.1.2) h.2,lF h.1.1.1,h.1.1.2]
  cases h
def Wk{b a:List AV}(h:Wl b a=true):b=a:=by
 unfold Wl at h;simp only[bI]at h;exact sL (Xi 8) _ _ (lF h.1) h.2
def Zj{P:Program}{T:List (FuncId × List AV × AV)}(b : ∀p∈T,kE P p.1 p.2.1 p.2.2){f:FuncId}{args:List AV}{y:AV}(h:LV T f args=some y):kE P f args y:=by
 induction T with| nil=>cases h| cons p T c=>
  obtain⟨g,xs,z⟩:=p;unfold LV at h;split at h;·rename_i a;simp only[bI]at a;cases h;have:=b _ (j1 ..);simp only at this;rw[<-lF a.1,<-Wk a.2];exact this
  exact c (λp hp=>b p (kQ _ hp)) h
def RN{P:Program}{l bT kp:List FuncId}{strict:Oper->Bool}{apart:Array Oper->List (Tmp × Tmp)}{jq:Oper->Bool}{Gf:List (FuncId × List AV × AV)}{wide:Oper->Bool}{su:FuncId->Option TypeId}{thrSpec:FuncId->List AV->aa->Option (AV × aa)}{sm:OE}(hspec : ∀p∈Gf,kE P p.1 p.2.1 p.2.2)(hm:P.follows .mixedOrders=true)(h0:IJ (xm P l bT kp strict apart jq) l=true)(hover : ∀f t,su f=some t->z9 P f t)(hthr : ∀f args H y H',thrSpec f args H=some (y,H')->nH P (.fn f) args H y H') :
 (xm P l bT kp strict apart jq Gf wide su thrSpec sm).Ok (Da (xm P l bT kp strict apart jq Gf wide su thrSpec sm)) where
 fns:=by
  intro f hf;have h:IJ (xm P l bT kp strict apart jq Gf) l=true:=h0;have hf':f∈l:=by simpa [xm] using hf
  have:=gP.1 h f hf';split at this;·rename_i fn hfn;simp only[bI,ij]at this;refine⟨fn,hfn,this.1,λc hc=>?_⟩;have h2:=this.2;rw[hc]at h2;exact h2
  cases this
 specs:=λf args y h=>Zj hspec h
 same:=rfl
 overs:=hover
 thrs:=hthr
 draws:=λops hok _ hpc _ htc nt dep id st st' M ι a w ro Q hr G hO hQ=>by
  rcases G0.1 hok with h1 | h1
  ·exact Of hm h1 hpc htc hr hO hQ
  exact Og hm h1 hpc htc hr G hO hQ
def NG{P:Program} : ∀p∈([]:List (FuncId × List AV × AV)),kE P p.1 p.2.1 p.2.2:=λp hp=>by simp at hp
def Mc(P:Program)(f:Func):Bool:=match f.resultTypes.toList with
 | [t]=>(match P.underlying t with | some .bool=>true | _=>false)
 | _=>false
def Qy{P:Program}{f:Func}(h:Mc P f=true) : ∃a,f.resultTypes = #[a]/\P.underlying a=some .bool:=by
 unfold Mc at h;split at h
 ·rename_i t c;split at h;·rename_i b;exact⟨t,by rw[<-KW,c],b⟩
  cases h
 cases h
end Go.Ab
