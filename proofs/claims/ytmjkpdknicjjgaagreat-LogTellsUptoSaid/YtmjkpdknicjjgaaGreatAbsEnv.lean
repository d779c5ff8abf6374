/-
  Regions where stores, and what looks at memory at one place, come in any order. No statement of a seat is proved here.
-/
import Derived.ReadAgain
import Derived.OpenShut
import Derived.ChangeSame
import Derived.RowKit
import Derived.JoinedOf
import Derived.Test.YtmjkpdknicjjgaaGreatAbsDrawn
set_option linter.unusedVariables false
set_option linter.unusedSimpArgs false
set_option linter.unusedSectionVars false
set_option linter.unnecessarySimpa false
set_option linter.defProp false
namespace Go.Ab
section
structure acf (E:Env) (ops:Array Oper):Prop extends RegB ops where
 made : ∀(i:Nat)(o:Oper),ops[i]?=some o->cls E o=3->o.dst.isSome=true
 stay : ∀(i:Nat)(o:Oper),ops[i]?=some o->cls E o≠0->cls E o≠3->py E o=false ->∃t,mI E o=some t /\∀k,jv ops k=some t->k<i
 must : ∀(i j:Nat)(oi oj:Oper),ops[i]?=some oi->ops[j]?=some oj->j<i->pM E oi oj=true->((dM ops.toList []).getD i 0).testBit j=true
 meet : ∀(i j:Nat)(oi oj:Oper),ops[i]?=some oi->ops[j]?=some oj->j<i->Ct (cls E oi) (cls E oj)=true->py E oi=false->py E oj=false->((dM ops.toList []).getD i 0).testBit j=true\/settled E ops oi oj=true
def DS(E:Env)(o:Oper):cls E o<=4:=by unfold cls;(repeat' split)<;>omega
def XG{E:Env}{ops:Array Oper}(h:UE E ops=true):acf E ops:=by
 unfold UE at h;rw[bt]at h;replace h:=h.2;simp only[dY,wz]at h;have one : ∀(i:Nat)(o:Oper),ops[i]?=some o->(fh o).all (· < i)=true/\PR E ops i o=true /\∀(j:Nat)(a:Oper),j<i->ops[j]?=some a->Ob E ops (dM ops.toList []) o a i j=true:=by
  intro i o e;have hi:i<ops.size:=(iT.1 e).1;have:=h i hi;rw[e]at this;simp only[bt,dY,wz]at this;refine⟨by simpa using this.1.1,this.1.2,λj a d p=>?_⟩;have s:=this.2 j d;rw[p]at s;exact s
 have c : ∀(i j:Nat)(oi a:Oper),ops[i]?=some oi->ops[j]?=some a->j<i->xy ops (dM ops.toList []) oi a i j=true /\
  (!pM E oi a||((dM ops.toList []).getD i 0).testBit j)=true/\(!Ct (cls E oi) (cls E a)||py E oi||py E a||((dM ops.toList []).getD i 0).testBit j||settled E ops oi a)=true:=by
  intro i j oi a hi d b;have:=(one i oi hi).2.2 j a b d;unfold Ob at this;rw[bt,bt]at this;exact⟨this.1.1,this.1.2,this.2⟩
 refine⟨Qj (λi o e=>(one i o e).1) λi j oi a hi d b=>(c i j oi a hi d b).1,?_,?_,?_,?_⟩;·intro i o e z;have:=(one i o e).2.1;unfold PR at this;rw[z]at this;exact this
 ·intro i o e y u m;have:=(one i o e).2.1;unfold PR at this;have f:Nu ops i (mI E o)=true:=by
   split at this;·exact absurd (by assumption) y
   ·exact absurd (by assumption) u
   rw[m,xC]at this;exact this
  unfold Nu at f;split at f
  ·rename_i t v;refine⟨t,v,λk g=>?_⟩;simp only[dY,wz]at f;have n:k<ops.size:=by
    unfold jv at g;cases q:ops[k]? with
    | none=>rw[q]at g;cases g
    | some x=>exact(iT.1 q).1
   have:=f k n;rw[g]at this;simpa using this
  cases f
 ·intro i j oi a hi d b l;have:=(c i j oi a hi d b).2.1;rw[l]at this;simpa using this
 intro i j oi a hi d b l r1 r2;have:=(c i j oi a hi d b).2.2;rw[l,r1,r2]at this;simpa using this
def Made(H H':aa)(q:Ref):Prop:=H.gen q.d q.t<=q.g/\q.g<H'.gen q.d q.t
structure xB (H H':aa):Prop where
 gen : ∀d t,H.gen d t<=H'.gen d t
 born : ∀q,H'.get q≠none->H.get q≠none\/Made H H' q
 arr : ∀q b b',H.get q=some b->q.g<H.gen q.d q.t->H'.get q=some b'->b'.arr=b.arr
def xB.refl(H:aa):xB H H:=⟨λ_ _=>bg _,λ_ h => .inl h,λq b c h _ a=>by rw[h]at a;cases a;rfl⟩
def xB.keyed(H:aa)(d t:Nat)(bs:List aY):xB H (keyed ⟨d,t,H.gen d t,0⟩ 0 bs H):=by
 refine⟨λm t'=>?_,λq h=>?_,λq b n h l a=>?_⟩
 ·rw[aa.mj];split;·rename_i c;obtain⟨rfl,rfl,_⟩:=c;exact Bi _
  exact bg _
 ·rw[aa.mV]at h;unfold sj at h;split at h
  ·rename_i c;obtain⟨j,g,f,k⟩:=c;refine .inr ⟨?_,?_⟩;·rw[j,g,f];exact bg _
   rw[aa.mj,if_pos ⟨j,g,by intro e;rw[e]at k;simp at k⟩,f];exact qp _
  exact .inl h
 rw[aa.mV]at a;unfold sj at a;split at a;·rename_i c;obtain⟨j,g,f,k⟩:=c;rw[j,g,f]at l;exact absurd l (vH _)
 rw[h]at a;cases a;rfl
def J6{g:cL}{R:List Ref}{q:Ref}{b c:aY}(h:g q=some b)(a:ti g R q=some c):c.arr=b.arr:=by
 unfold ti at a;split at a;·rw[h]at a;simp at a;rw[<-a]
 rw[h]at a;cases a;rfl
def G6{g:cL}{R:List Ref}{q:Ref}:ti g R q≠none->g q≠none:=by
 unfold ti;split;·intro h e;rw[e]at h;exact h rfl
 exact id
def xB.put{H:aa}{R:List Ref}{r:Ref}{b:aY}{es:List AV}(c:(b9 H R).get r=some b):xB H ((b9 H R).put r (some { b with es})):=by
 refine⟨λd t=>?_,λq h=>?_,λq b1 g h f a=>?_⟩;·rw[aa.dK _ _ _ (by rw[c];rfl),aa.iw];exact bg _
 ·rw[aa.ab]at h;split at h;·rename_i e;subst e;exact .inl (G6 (R:=R) (by rw[<-aa.du,c];simp))
  exact .inl (G6 (R:=R) (by rw[<-aa.du];exact h))
 rw[aa.ab]at a;split at a;·rename_i e;subst e;cases a;rw[aa.du]at c;exact(J6 h c:b.arr=b1.arr)
 rw[aa.du]at a;exact J6 h a
def KD{P:Program}{H H':aa}{t:TypeId}{a x:Option AV}{y:AV}(h:iV P H t a x=some (y,H')):xB H H':=by
 unfold iV at h;split at h
 ·split at h
  ·rename_i r' i j q n _ b e;obtain⟨⟨m,k,l⟩,h⟩:=eQ.1 h;split at h
   ·split at h
    ·rename_i p g;split at h;·cases h
     rename_i d;obtain⟨f,h⟩:=eQ.1 h;simp only[bG]at h;obtain⟨es',c,h⟩:=h;cases h;exact xB.put (by rw[aa.du];unfold ti;rw[if_neg d];exact e)
    cases h
   simp only[bG]at h;obtain⟨es',c,h⟩:=h;cases h;exact xB.put (R:=[]) e
  cases h
 cases h
def AE{P:Program}{H H':aa}{t t':Option TypeId}{s x y:AV}(h:jU P H t t' s x=some (y,H')) :
 ∃r b z es f,kS s=some r/\H.get r=some b/\b.arr=true/\H'=(⟨r.d,r.t,H.gen r.d r.t,0⟩,some ⟨z,es,true,f⟩) :: H.put r none:=by
 unfold jU at h;split at h;·cases h
 split at h;·cases h
 split at h
 ·split at h;·cases h
  split at h
  ·split at h;·rename_i r' e len b c;obtain⟨⟨_,a,_⟩,h⟩:=eQ.1 h;cases h;exact⟨_,b,_,_,_,rfl,c,a,rfl⟩
   cases h
  cases h
 cases h
def Kp{H:aa}{r:Ref}{o:Option aY}(q:Ref):aa.get ((⟨r.d,r.t,H.gen r.d r.t,0⟩,o) :: H.put r none) q=if (⟨r.d,r.t,H.gen r.d r.t,0⟩:Ref)=q then o else if q=r then none else H.get q:=by
 simp only[aa.get,aa.ab]
def Kq{H:aa}{r:Ref}{o:Option aY}(a:(H.get r).isSome=true)(d t:Nat):aa.gen ((⟨r.d,r.t,H.gen r.d r.t,0⟩,o) :: H.put r none) d t=if r.d=d/\r.t=t then H.gen d t+1 else H.gen d t:=by
 simp only[aa.gen];rw[aa.dK _ _ _ a];split;·rename_i h;rw[h.1,h.2]
 rfl
def Jv{P:Program}{H H':aa}{t t':Option TypeId}{s x y:AV}(h:jU P H t t' s x=some (y,H')):xB H H' /\∃r,kS s=some r /\∀q,H'.get q≠H.get q->Made H H' q\/q=r:=by
 obtain⟨r,b,z,es,f,l,m,j,rfl⟩:=AE h;have k:(H.get r).isSome=true:=by rw[m];rfl
 have a : ∀q,(⟨r.d,r.t,H.gen r.d r.t,0⟩:Ref)=q->Made H ((⟨r.d,r.t,H.gen r.d r.t,0⟩,some ⟨z,es,true,f⟩) :: H.put r none) q:=by
  intro q e;subst e;refine⟨bg _,?_⟩;rw[Kq k,if_pos ⟨rfl,rfl⟩];exact qp _
 refine⟨⟨λd t=>?_,λq c=>?_,λq b1 u n p g=>?_⟩,r,l,λq c=>?_⟩;·rw[Kq k];split<;>omega
 ·rw[Kp]at c;split at c;·rename_i e;exact .inr (a q e)
  split at c;·exact absurd rfl c
  exact .inl c
 ·rw[Kp]at g;split at g;·rename_i e;subst e;exact absurd p (vH _)
  split at g;·cases g
  rw[n]at g;cases g;rfl
 rw[Kp]at c;split at c;·rename_i e;exact .inl (a q e)
 split at c;·rename_i e;exact .inr e
 exact absurd rfl c
def Seen(g a:cL)(v:AV):Prop :=∀q,kS v=some q->g q≠none->a q=g q
def vo{g a:cL}{v:AV}(h:Seen g a v){q:Ref}(d:kS v=some q){b:aY}(c:g q=some b):a q=some b:=by rw[h q d (by rw[c];simp),c]
def Gy{P:Program}{g e:cL}{t:TypeId}{v x:AV}{bs:List aY}(h:nh P g t (some v)=some (x,bs))(f:Seen g e v):bs=[]/\nh P e t (some v)=some (x,bs):=by
 unfold nh at h ⊢;cases v<;>(try (simp at h;done))
 ·rename_i r i j;cases c:eI P t<;>cases a:aH P t<;>rw[c,a]at h<;>(try (simp at h;done));simp only at h ⊢;cases d:g r with
  | none=>rw[d]at h;simp at h
  | some b=>rw[d]at h;rw[vo f rfl d];exact⟨(qA h).2,h⟩
 cases c:eI P t<;>cases a:aH P t<;>rw[c,a]at h<;>(try (simp at h;done));exact⟨(qA h).2,h⟩
def yK{P:Program}{g l:cL}{t:TypeId}{v x:AV}{d:Option AV}{bs:List aY}(h:bK P g t (some v) d=some (x,bs))(m:Seen g l v):bs=[]/\bK P l t (some v) d=some (x,bs):=by
 unfold bK at h ⊢;cases n:d.bind tC with
 | none=>rw[n]at h;simp at h
 | some k=>
 rw[n]at h;simp only at h ⊢;cases he:cu P t with
 | some e=>
  rw[he]at h;simp only at h ⊢;cases c:aH P e with
  | none=>rw[c]at h;cases v<;>simp at h
  | some z=>
  rw[c]at h;cases v<;>(try (simp at h;done));·simp only at h ⊢;exact⟨by obtain⟨_,h⟩:=eQ.1 h;cases h;rfl,h⟩
  ·rename_i r f len cap;simp only at h ⊢;cases a:g r with
   | none=>rw[a]at h;simp at h
   | some b=>rw[a]at h;rw[vo m rfl a];exact⟨by obtain⟨_,h⟩:=eQ.1 h;cases h;rfl,h⟩
  rename_i r f len cap;simp only at h ⊢;cases a:g r with
  | none=>rw[a]at h;simp at h
  | some b=>rw[a]at h;rw[vo m rfl a];exact⟨by obtain⟨_,h⟩:=eQ.1 h;cases h;rfl,h⟩
 | none=>
  rw[he]at h;simp only at h ⊢;refine⟨?_,h⟩;cases j:mC P t with
  | none=>rw[j]at h;simp at h
  | some p=>
  rw[j]at h;cases c:aH P p.2 with
  | none=>simp only[c]at h;cases v<;>simp at h
  | some z=>
  simp only[c]at h;cases v<;>(try (simp at h;done));·obtain⟨_,h⟩:=eQ.1 h;cases h;rfl
  obtain⟨_,h⟩:=eQ.1 h;cases h;rfl
def Ef{P:Program}{g k:cL}{t:TypeId}{v x:AV}{lo hi d:Option (Option Int)}{bs:List aY}(h:cm P g t (some v) lo hi d=some (x,bs))(l:Seen g k v):bs=[]/\cm P k t (some v) lo hi d=some (x,bs):=by
 have nil : ∀ {c:Prop} [Decidable c] {o:Option (Nat × Nat × Option Nat)} {f:Nat × Nat × Option Nat->AV × List aY},(∀p,(f p).2=[])->(if c then o.map f else none)=some (x,bs)->bs=[]:=by
  intro c _ o f m h;obtain⟨_,h⟩:=eQ.1 h;obtain⟨p,_,h⟩:=bG.1 h;have:=m p;rw[h]at this;exact this
 unfold cm at h ⊢;cases lo<;>cases hi<;>cases d<;>(try (simp at h;done));simp only at h ⊢;cases v<;>(try (simp at h;done))
 ·rename_i y;cases y<;>(try (simp at h;done));·simp only at h ⊢;exact⟨nil (λ_=>rfl) h,h⟩
  split at h;·rename_i e;simp only[dV,AV.v.injEq,Value.slice.injEq]at e;obtain⟨rfl,rfl,rfl⟩:=e;exact⟨nil (λ_=>rfl) h,h⟩
  ·rename_i e;simp at e
  ·rename_i e;simp at e
  ·rename_i e;simp at e
  ·rename_i e;simp at e
  cases h
 ·simp only at h ⊢;exact⟨nil (λ_=>rfl) h,h⟩
 ·rename_i r j len cap;simp only at h ⊢;cases a:g r with
  | none=>rw[a]at h;simp at h
  | some b=>rw[a]at h;rw[vo l rfl a];exact⟨nil (λ_=>rfl) h,h⟩
 rename_i r j len cap;simp only at h ⊢;cases a:g r with
 | none=>rw[a]at h;simp at h
 | some b=>rw[a]at h;rw[vo l rfl a];exact⟨nil (λ_=>rfl) h,h⟩
def Kb{g c:cL}{v:AV}{p:Nat × List AV}(h:cy g v=some p)(d:Seen g c v):cy c v=some p:=by
 unfold cy at h ⊢;cases v<;>(try (simp at h;done));·rename_i y;cases y<;>first | exact h | (simp at h;done)
 ·exact h
 rename_i r e len cap;simp only at h ⊢;cases a:g r with
 | none=>rw[a]at h;simp at h
 | some b=>rw[a]at h;rw[vo d rfl a];exact h
def AO{P:Program}{g f:cL}{r r':Ref}{src dst:TypeId}{v x:AV}{bs:List aY}(hd:dq P dst=false)(h:bX P g r src dst (some v)=some (x,bs))(k:Seen g f v) :
 bs=[]/\bX P f r' src dst (some v)=some (x,bs):=by
 have other : ∀ {y:AV},y=v->(if dq P src&&isStr P dst then
  match cy g y with
  | some (_,es)=>(es.mapM byteOf).map λl=>((AV.v (.string ⟨l.toArray⟩),[]):AV × List aY)
  | none=>none
  else if src == dst&&dq P src then
   match y with
   | .bA r' _ _ _=>(match g r' with
    | some b=>if b.esz=1 then some (y,[]) else none
    | none=>none)
   | _=>none
  else none)=some (x,bs)->bs=[]/\(if dq P src&&isStr P dst then
   match cy f y with
   | some (_,es)=>(es.mapM byteOf).map λl=>((AV.v (.string ⟨l.toArray⟩),[]):AV × List aY)
   | none=>none
  else if src == dst&&dq P src then
   match y with
   | .bA r' _ _ _=>(match f r' with
    | some b=>if b.esz=1 then some (y,[]) else none
    | none=>none)
   | _=>none
  else none)=some (x,bs):=by
  intro y e h;split at h
  ·rename_i j;rw[if_pos j];cases he:cy g y with
   | none=>rw[he]at h;simp at h
   | some p=>rw[he]at h;rw[Kb he (e ▸ k)];refine⟨?_,h⟩;obtain⟨_,_,h⟩:=bG.1 h;cases h;rfl
  rename_i j;split at h;·rename_i d;simp only[bt,iQl]at d;rw[d.1,hd]at d;simp at d
  cases h
 unfold bX at h ⊢;cases v;case v y=>
  cases y;case string s=>
   simp only[hd,Bn,gj,iQh]at h ⊢;exact⟨by obtain⟨_,h⟩:=eQ.1 h;cases h;rfl,h⟩
  case slice a l c=>
   rcases a with _ | a
   ·rcases l with _ | l
    ·rcases c with _ | c
     ·exact⟨by obtain⟨_,h⟩:=eQ.1 h;cases h;rfl,h⟩
     exact⟨(qA h).2,h⟩
    exact⟨(qA h).2,h⟩
   exact⟨(qA h).2,h⟩
  all_goals exact⟨(qA h).2,h⟩
 all_goals exact other rfl h
def Dj{P:Program}{H H':aa}{d a:Nat}{t:TypeId}{n:Nat}{l:List (Nat × AV)}{x:AV}(h:jH P H ⟨d,a,H.gen d a,0⟩ t n (some l)=some (x,H')):xB H H' /\∀q,H'.get q≠H.get q->Made H H' q\/q∈bH H.get (l.map (·.2)):=by
 simp only[jH,bG]at h;obtain⟨b,y,h⟩:=h;injection h with K s
 subst s;generalize J:bH H.get (l.map (·.2))=R;have c : ∀q,aa.get ((⟨d,a,H.gen d a,0⟩,some b) :: b9 H R) q=if (⟨d,a,H.gen d a,0⟩:Ref)=q then some b else ti H.get R q:=by
  intro q;simp only[aa.get,aa.du]
 have j : ∀k t',aa.gen ((⟨d,a,H.gen d a,0⟩,some b) :: b9 H R) k t'=if d=k/\a=t' then H.gen d a+1 else H.gen k t':=by
  intro k t';simp only[aa.gen,aa.iw]
 have f : ∀q,(⟨d,a,H.gen d a,0⟩:Ref)=q->Made H ((⟨d,a,H.gen d a,0⟩,some b) :: b9 H R) q:=by
  intro q e;subst e;refine⟨bg _,?_⟩;rw[j,if_pos ⟨rfl,rfl⟩];exact qp _
 refine⟨⟨λk t'=>?_,λq g=>?_,λq b1 z u v m=>?_⟩,λq g=>?_⟩
 ·rw[j];split;·rename_i e;rw[<-e.1,<-e.2];exact Bi _
  exact bg _
 ·rw[c]at g;split at g;·rename_i e;exact .inr (f q e)
  exact .inl (G6 g)
 ·rw[c]at m;split at m;·rename_i e;subst e;exact absurd v (vH _)
  exact J6 u m
 rw[c]at g;split at g;·rename_i e;exact .inl (f q e)
 unfold ti at g;split at g;·rename_i p;exact .inr p
 exact absurd rfl g
def Cj{P:Program}{g f:cL}{t:TypeId}{v x:AV}{k:Option AV}{ok:Bool}{bs:List aY}(h:oo P g t (some v) k ok=some (x,bs))(l:Seen g f v):bs=[]/\oo P f t (some v) k ok=some (x,bs):=by
 unfold oo at h ⊢;cases v<;>(try (simp at h;done));rename_i r;cases d:Np P t with
 | none=>rw[d]at h;simp at h
 | some p=>
 obtain⟨n,m⟩:=p;cases j:k.bind kr with
 | none=>rw[d,j]at h;simp at h
 | some q=>
 rw[d,j]at h;simp only at h ⊢;cases hm:ni g r with
 | none=>rw[hm]at h;simp at h
 | some a=>
 have c:ni f r=some a:=by
  unfold ni at hm ⊢;cases e:g r with
  | none=>rw[e]at hm;simp at hm
  | some b=>rw[e]at hm;rw[vo l rfl e];exact hm
 rw[c];rw[hm]at h;refine⟨?_,h⟩;simp only at h;split at h
 ·split at h;·obtain⟨_,_,h⟩:=bG.1 h;cases h;rfl
  ·obtain⟨_,_,h⟩:=bG.1 h;cases h;rfl
  cases h
 cases h
def Vw{E:Env}{pc:FuncId->List AV->Option AV}{g j:cL}{tm:List AV}{r:Ref}{o:Oper}(b:blind E o=true){x:AV}{bs:List aY}(h:cI E pc true g tm r o=some (x,bs)) :
 cI E pc true j tm r o=some (x,bs):=by
 unfold blind at b;replace b:=(wD.1 b).2;split at b;·rename_i a;unfold cI at h ⊢;simp only[a]at h ⊢;exact h
 ·rename_i a;unfold cI at h ⊢;simp only[a]at h ⊢;exact h
 ·rename_i c a;obtain⟨k,d⟩:=wD.1 b;split at d
  ·rename_i f l;have e:c.args.toList=[]:=by simpa using k
   unfold cI at h ⊢;simp only[a,e,l,yf,I6,rA,aL,kT,o4,bH,Bo]at h ⊢;exact h
  cases d
 cases b
def On{E:Env}{o:Oper}(h:Oo E o=true):blind E o=true:=by
 unfold Oo at h;unfold blind;obtain⟨c,b⟩:=wD.1 h;rw[c,ia];split at b;·rename_i a;rw[a]
 ·rename_i a;rw[a]
 cases b
def RK{E:Env}{oi b:Oper}(h:blind E oi=false):ox E oi b=false:=by
 unfold ox;cases a:Oo E oi with
 | false=>rfl
 | true=>rw[On a]at h;cases h
def ow{E:Env}{oi a:Oper}(h:cls E oi≠3):ox E oi a=false:=by
 unfold ox Oo;rw[beq_false_of_ne h];rfl
def RL{E:Env}{oi a:Oper}(h:((Ho a.op).isSome&&a.dst.isSome)=false):ox E oi a=false:=by
 unfold ox;rw[h,Bn]
def Om{E:Env}{pc:FuncId->List AV->Option AV}{g:cL}{tm:List AV}{r:Ref}{o:Oper}(b:Oo E o=true){x:AV}{bs:List aY}(h:cI E pc true g tm r o=some (x,bs)):bs≠[]:=by
 unfold Oo at b;replace b:=(wD.1 b).2;split at b
 ·rename_i a;unfold cI at h;simp only[a]at h;unfold uD at h;split at h
  ·split at h;·cases h;simp
   cases h
  cases h
 ·rename_i a;unfold cI at h;simp only[a]at h;cases h;simp
 cases b
def QG{E:Env}{pc:FuncId->List AV->Option AV}{tc:tE->List AV->aa->cJ}{nt dep:Nat}{ops:Array Oper}{o:Oper}{st d:St}{t:Tmp}(a:Ho o.op=some t)(q:wanted ops st.tm o=some true)(h:evalOp E pc tc nt dep true ops o st=some d) :
 (∃x bs tm',cI E pc true st.hp.get st.tm ⟨dep,o.dst.getD 0,st.hp.gen dep (o.dst.getD 0),0⟩ o=some (x,bs)/\dg nt st.tm o.dst x=some tm'/\d=⟨tm',keyed ⟨dep,o.dst.getD 0,st.hp.gen dep (o.dst.getD 0),0⟩ 0 bs st.hp⟩) \/
 ∃c y z x,o.op = .call c/\c.callee = .builtin .append/\c.args.toList.mapM (aL st.tm)=some [y,z]/\jU E.P st.hp c.argTypes[0]? c.argTypes[1]? y z=some (x,d.hp)/\y=cX st.tm t/\dg nt st.tm o.dst x=some d.tm:=by
 unfold evalOp at h;rw[q]at h;simp only at h;split at h;·rename_i x bs u;simp only[bG]at h;obtain⟨tm',g,rfl⟩:=h;exact .inl ⟨x,bs,tm',u,g,rfl⟩
 split at h;·cases h
 split at h
 ·rename_i x H f;simp only[bG]at h;obtain⟨tm',g,rfl⟩:=h;refine .inr ?_;unfold Ho at a;split at a
  ·rename_i c p;split at a
   ·rename_i n;split at a
    ·rename_i t' rest b;cases a;unfold evalW at f;simp only[p,n,b]at f;cases hm:List.mapM (aL st.tm) (Operand.tmp t :: rest) with
     | none=>rw[hm]at f;simp at f
     | some args=>
      rw[hm]at f;have j:=hm;simp only[na,aL,rA,sJ,dX,iz]at hm;obtain⟨l,v,e⟩:=hm;simp at e;subst e;simp only at f;split at f;·rename_i s y m k;cases k;exact⟨c,_,_,x,p,n,by rw[b];exact j,f,rfl,g⟩
      ·rename_i m k;cases m
      cases f
    cases a
   cases a
  cases a
 cases h
def LH{E:Env}{pc:FuncId->List AV->Option AV}{g:cL}{tm:List AV}{r:Ref}{o:Oper}{t:Tmp}(d:AW E.P o.op=some t){x:AV}{bs:List aY}(h:cI E pc true g tm r o=some (x,bs)) :
 bs=[] /\∀f r',Seen g f (cX tm t)->cI E pc true f tm r' o=some (x,bs):=by
 unfold AW at d;split at d;·rename_i ty t' a;cases d;unfold cI at h ⊢;simp only[a]at h ⊢;exact⟨(Gy h (λ_ _ _=>rfl)).1,λf r' e=>(Gy h e).2⟩
 ·rename_i ty t' N a;cases d;unfold cI at h ⊢;simp only[a]at h ⊢;exact⟨(yK h (λ_ _ _=>rfl)).1,λf r' e=>(yK h e).2⟩
 ·rename_i ty t' lo hi L a;cases d;unfold cI at h ⊢;simp only[a,ze,Bn,iQu]at h ⊢;exact⟨(Ef h (λ_ _ _=>rfl)).1,λf r' e=>(Ef h e).2⟩
 ·rename_i src dst t' a;split at d;·cases d
  rename_i u;cases d;unfold cI at h ⊢;simp only[a]at h ⊢;have j:dq E.P dst=false:=by simpa using u
  exact⟨(AO (r':=r) j h (λ_ _ _=>rfl)).1,λf r' e=>(AO j h e).2⟩
 ·rename_i ty t' k ok a;cases d;unfold cI at h ⊢;simp only[a]at h ⊢;exact⟨(Cj h (λ_ _ _=>rfl)).1,λf r' e=>(Cj h e).2⟩
 ·rename_i c a;split at d
  ·rename_i K;split at d
   ·rename_i t' l;cases d;unfold cI at h ⊢;simp only[a,l,K,na,I6,aL,rA,sJ,dX]at h ⊢;cases z:cX tm t with
    | mp q=>
     rw[z]at h;simp only[cO]at h ⊢;obtain⟨hd,h⟩:=Nf.1 h;simp only[if_neg hd];refine⟨?_,λf r' e=>?_⟩
     ·unfold Ac at h;split at h;·cases h;rfl
      cases h
     unfold Ac at h ⊢;split at h
     ·rename_i p s J m;have v:ni f q=some s:=by
       unfold ni at m ⊢;cases y:g q with
       | none=>rw[y]at m;simp at m
       | some b=>rw[y]at m;rw[vo e rfl y];exact m
      simp only[J,v];exact h
     cases h
    | _=>rw[z]at h;simp only[cO]at h ⊢;refine⟨?_,λf r' e=>h⟩;unfold HR at h;(repeat' split at h)<;>(try simp_all)<;>(try (obtain⟨_,_,_,h⟩:=h;exact h))<;>(try (obtain⟨n,_,h⟩:=iz.1 h;simp at h;exact h.2))
   cases d
  cases d
 cases d
end
section
section
variable{E:Env}{o:Oper}
def Hg(h:cls E o=0):wo E o=false:=by
 unfold cls at h;cases a:wo E o with
 | false=>rfl
 | true=>rw[a]at h;simp only[if_true]at h;(repeat' split at h)<;>omega
def Kf(h:cls E o=1) : ∃t,AW E.P o.op=some t/\mI E o=some t/\jj E o=false:=by
 unfold cls at h;split at h
 ·split at h;·cases h
  rename_i d;split at h
  ·rename_i e;obtain⟨t,a⟩:=ib.1 e;refine⟨t,a,?_,?_⟩;·have:storeT o.op=none:=(by simpa using d);simp[mI,this,a]
   unfold jj;have:Z6 E o.op=false/\Aw o.op=false:=by
    unfold AW at a;split at a<;>(try (rename_i b;rw[b];exact⟨rfl,rfl⟩))
    ·rename_i c b;split at a;·rename_i f;rw[b];simp[Z6,Aw,f]
     cases a
    cases a
   rw[this.1,this.2];simp
  split at h<;>cases h
 cases h
def Qb(h:cls E o=2) : ∃ty t x,o.op = .store ty (.tmp t) x/\mI E o=some t:=by
 unfold cls at h;split at h
 ·split at h
  ·rename_i d;obtain⟨t,a⟩:=ib.1 d;have b:=a;unfold storeT at a;split at a;·rename_i ty t' x c;cases a;exact⟨ty,t,x,c,by simp[mI,b]⟩
   cases a
  (repeat' split at h)<;>cases h
 cases h
def Al(h:cls E o=3):wo E o=true/\jj E o=false:=by
 unfold cls at h;split at h
 ·rename_i a;split at h;·cases h
  split at h;·cases h
  split at h;·cases h
  rename_i b;exact⟨a,by simpa using b⟩
 cases h
def My(h:cls E o=4):mI E o=if Aw o.op then ZU o.op else F3 o.op:=by
 unfold cls at h;split at h
 ·split at h;·cases h
  rename_i a;split at h;·cases h
  rename_i d;have c:storeT o.op=none:=by simpa using a
  have b:AW E.P o.op=none:=(by simpa using d);simp[mI,c,b]
 cases h
end
def Lj{E:Env}{o:Oper}(h:py E o=true) : ∃c g,o.op = .call c/\c.callee = .value (.func g)/\E.mode g=2/\E.gB o=true/\E.strict o=false:=by
 unfold py at h;rw[bt,bt]at h;obtain⟨⟨f,d⟩,a⟩:=h;split at a
 ·rename_i c b;split at a;·rename_i g e;exact⟨c,g,b,e,by simpa using a,f,by simpa using d⟩
  cases a
 cases a
def Rd{E:Env}{o:Oper}(h:py E o=true):cls E o=4/\mI E o=none:=by
 obtain⟨c,g,a,b,hm,p,j⟩:=Lj h;have f:storeT o.op=none:=by rw[a];rfl
 have d:AW E.P o.op=none:=by rw[a];simp[AW,b]
 have n:ku o.op=true:=by rw[a];simp[ku,b]
 have e:jj E o=true:=by simp[jj,j,a,Z6,b,hm]
 have k:F3 o.op=none:=by rw[a];simp[F3,Rx,Ho,b]
 have m:Aw o.op=false:=by rw[a];rfl
 refine⟨?_,?_⟩;·have l:wo E o=true:=iv e;simp[cls,f,d,l,e]
 simp[mI,f,d,k,m]
def rY{E:Env}{o:Oper}{t:Tmp}(h:mI E o=some t):py E o=false:=by
 cases a:py E o with| false=>rfl| true=>rw[(Rd a).2]at h;cases h
def UB{E:Env}{pc:FuncId->List AV->Option AV}{tc:tE->List AV->aa->cJ}{H H':aa}{tm:List AV}{r:Ref}{o:Oper}{t:Tmp}(e:Rx o.op=some t){x:AV}(h:evalW E pc tc H tm r o=some (x,H')) :
 ∃q a c,kS (cX tm t)=some q/\ni H.get q=some a/\H'=H.put q (some (oV c)):=by
 have g : ∀ {ty:TypeId} {m:AV} {k v:Option AV} {y:AV} {H':aa},jn E.P H ty (some m) k v=some (y,H') ->∃q a c,kS m=some q/\ni H.get q=some a/\H'=H.put q (some (oV c)):=by
  intro ty m k v y H' h;unfold jn at h;split at h
  ·rename_i u l q k' s j d;simp only[dV]at d;subst d;split at h
   ·rename_i z a p f;split at h
    ·split at h
     ·split at h;·cases h;exact⟨q,a,_,rfl,f,rfl⟩
      cases h
     ·cases h;exact⟨q,a,_,rfl,f,rfl⟩
     cases h
    cases h
   cases h
  cases h
 unfold Rx at e;split at e;·rename_i b;cases e;unfold evalW at h;simp only[b,aL]at h;exact g h
 ·rename_i b;cases e;unfold evalW at h;simp only[b,aL]at h;exact g h
 ·rename_i ty t' k b;cases e;unfold evalW at h;simp only[b,aL]at h;unfold pG at h;split at h
  ·rename_i u l q k' j d J;split at h
   ·rename_i z a p f;split at h
    ·split at h
     ·split at h;·simp only[bG]at h;obtain⟨v,_,h⟩:=h;cases h;simp only[dV]at d;exact⟨q,a,_,by rw[d];rfl,f,rfl⟩
      cases h
     ·simp only[bG]at h;obtain⟨v,_,h⟩:=h;cases h;simp only[dV]at d;exact⟨q,a,_,by rw[d];rfl,f,rfl⟩
     cases h
    cases h
   cases h
  cases h
 ·rename_i k t' m s b;cases e;unfold evalW at h;simp only[b,aL]at h;unfold la at h;split at h
  ·rename_i q K n L j d J;split at h
   ·rename_i a f;split at h
    ·split at h;·cases h;simp only[dV]at j;exact⟨q,a,_,by rw[j];rfl,f,rfl⟩
     cases h
    cases h
   cases h
  cases h
 cases e
def Ry{g:cL}{r:Ref}{a:List AV}(h:ni g r=some a) : ∃b,g r=some b/\b.arr=false:=by
 unfold ni at h;split at h;·rename_i e;exact⟨_,e,rfl⟩
 cases h
def xB.map{H:aa}{r:Ref}{b a:List AV}(g:ni H.get r=some b):xB H (H.put r (some (oV a))):=by
 obtain⟨b0,f,j⟩:=Ry g;refine⟨λd t=>?_,λq h=>?_,λq b1 l h k c=>?_⟩;·rw[aa.dK _ _ _ (by rw[f];rfl)];exact bg _
 ·rw[aa.ab]at h;split at h;·rename_i e;subst e;exact .inl (by rw[f];simp)
  exact .inl h
 rw[aa.ab]at c;split at c;·rename_i e;subst e;cases c;rw[f]at h;cases h;rw[j];rfl
 rw[h]at c;cases c;rfl
def VD{E:Env}{pc:FuncId->List AV->Option AV}{tc:tE->List AV->aa->cJ}{H H':aa}{tm:List AV}{r:Ref}{o:Oper}{t:Tmp}(a:Ho o.op=some t){x:AV}(h:evalW E pc tc H tm r o=some (x,H')) :
 ∃j k y z,kS y=kS (cX tm t)/\jU E.P H j k y z=some (x,H'):=by
 unfold Ho at a;split at a
 ·rename_i c d;split at a
  ·rename_i m;split at a
   ·rename_i t' rest b;cases a;unfold evalW at h;simp only[d,m,b]at h;cases hm:List.mapM (aL tm) (Operand.tmp t :: rest) with
    | none=>rw[hm]at h;simp at h
    | some args=>
     rw[hm]at h;simp only[na,aL,rA,sJ,dX,iz]at hm;obtain⟨l,a,e⟩:=hm;simp at e;subst e;simp only at h;split at h;·rename_i s y g f;cases f;exact⟨_,_,_,_,rfl,h⟩
     ·rename_i g f;cases g
     cases h
   cases a
  cases a
 cases a
def Nj{P:Program}{H H':aa}{t:TypeId}{a x:Option AV}{y:AV}(h:iV P H t a x=some (y,H'))(d k:Nat):H'.gen d k=H.gen d k:=by
 unfold iV at h;split at h
 ·split at h
  ·rename_i r' i j u n _ b f;obtain⟨⟨q,m,p⟩,h⟩:=eQ.1 h;split at h
   ·split at h
    ·rename_i s l;split at h;·cases h
     rename_i e;obtain⟨g,h⟩:=eQ.1 h;simp only[bG]at h;obtain⟨es',c,h⟩:=h;cases h;rw[aa.dK _ _ _ (by rw[aa.du];unfold ti;rw[if_neg e,f];rfl),aa.iw]
    cases h
   simp only[bG]at h;obtain⟨es',c,h⟩:=h;cases h;rw[aa.dK _ _ _ (by rw[f];rfl)]
  cases h
 cases h
def KW{P:Program}{M:Mem}{ι:Map}{g:cL}{w:World}(u:gA M ι g w){t:TypeId}{n:Nat}(S:aH P t=some n){r:Ref}{i j:Nat}{x:AV}{v a:Value}(Q:VR M ι (.ptr r i j) v)(z:VR M ι x a)
 {b:aY} (q:g r=some b) (R:x.cells.length=n) (m:x.cells.all AV.one=true) (h:b.gB=false) (e:b.arr=false) {es':List AV} (p:gr b.es i j x.cells=some es') :
 ∃w',(Instr.storeAt t v a).run P w = .ok () w'/\gA M ι (lL g r { b with es:=es'}) w'/\tz M ι g w M ι (lL g r { b with es:=es'}) w':=by
 cases Q with | ptr s d=>
 rename_i l;have f:=u.at s d q;have c:=z.cells;have k:a.cells.size=n:=by have:=c.1;simp at this;omega
 obtain⟨arr,T,fz,y,O,J,K,N,L⟩:=FC u q s d h p m (us:=a.cells.toList) (by rw[aY.map,if_neg (by simp[e])];exact c);refine⟨ca w l.b (.cells (cH arr (i * b.esz+j) a.cells.toList) T fz),?_,N,L⟩;rw[f.esz];exact zo S k y O J K
section
variable{E:Env}{pc:FuncId->List AV->Option AV}{tc:tE->List AV->aa->cJ}{nt dep:Nat}{ops:Array Oper}{sts:Nat->St}
variable(C:acf E ops)(A : ∀i o,ops[i]?=some o->evalOp E pc tc nt dep true ops o (sts i)=some (sts (i+1)))
abbrev makes(sts:Nat->St)(j:Nat)(q:Ref):Prop:=Made (sts j).hp (sts (j+1)).hp q
abbrev turns(sts:Nat->St)(j:Nat)(q:Ref):Prop:=(sts (j+1)).hp.get q≠(sts j).hp.get q
theorem WH{o:Oper}{st b:St}{t:Tmp}(a:ZU o.op=some t)(h:evalOp E pc tc nt dep true ops o st=some b) :
 b.hp=st.hp\/(∃bs,b.hp=keyed ⟨dep,o.dst.getD 0,st.hp.gen dep (o.dst.getD 0),0⟩ 0 bs st.hp) \/∃c n i x,jH E.P st.hp ⟨dep,o.dst.getD 0,st.hp.gen dep (o.dst.getD 0),0⟩ c n (some [(i,cX st.tm t)])=some (x,b.hp):=by
 unfold evalOp at h;split at h;·cases h
 ·simp only[bG]at h;obtain⟨tm',f,rfl⟩:=h;exact .inl rfl
 split at h;·rename_i x bs j;simp only[bG]at h;obtain⟨tm',f,rfl⟩:=h;exact .inr (.inl ⟨bs,rfl⟩)
 split at h;·cases h
 split at h
 ·rename_i x H d;simp only[bG]at h;obtain⟨tm',f,rfl⟩:=h;unfold ZU at a;split at a
  ·rename_i c n ps g;split at a;·rename_i i t' e;cases a;unfold evalW at d;simp only[g,e]at d;exact .inr (.inr ⟨c,n,i,x,d⟩)
   cases a
  cases a
 cases h
theorem z6{o:Oper}{st c:St}(a:cls E o=0\/cls E o=1)(h:evalOp E pc tc nt dep true ops o st=some c):c.hp=st.hp:=by
 rcases nY h with ⟨_,tm',d,he⟩ | ⟨_,x,bs,e,tm',d,he⟩ | b
 ·rw[he]
 ·rw[he];rcases a with a | a
  ·rw[(xl (Hg a) e).1];rfl
  obtain⟨t,d,_,_⟩:=Kf a;rw[(LH d e).1];rfl
 rcases a with a | a
 ·have:=Hg a;rw[iv b]at this;cases this
 obtain⟨t,d,_,hw⟩:=Kf a;rw[hw]at b;cases b
theorem Gb{o:Oper}{st a:St}{ty:TypeId}{t:Tmp}{d:Operand}(b:o.op = .store ty (.tmp t) d)(h:evalOp E pc tc nt dep true ops o st=some a)(g:wanted ops st.tm o=some true) :
 ∃y,iV E.P st.hp ty (some (cX st.tm t)) (aL st.tm d)=some (y,a.hp)/\dg nt st.tm o.dst y=some a.tm:=by
 unfold evalOp at h;rw[g]at h;have f:cI E pc true st.hp.get st.tm ⟨dep,o.dst.getD 0,st.hp.gen dep (o.dst.getD 0),0⟩ o=none:=by unfold cI;simp only[b]
 rw[f]at h;simp only at h;split at h;·cases h
 split at h;·rename_i x H c;simp only[bG]at h;obtain⟨tm',e,rfl⟩:=h;unfold evalW at c;simp only[b]at c;exact⟨x,c,e⟩
 cases h
theorem step_map{o:Oper}{st a:St}{t:Tmp}(d:Rx o.op=some t)(h:evalOp E pc tc nt dep true ops o st=some a) :
 a.hp=st.hp\/(∃bs,a.hp=keyed ⟨dep,o.dst.getD 0,st.hp.gen dep (o.dst.getD 0),0⟩ 0 bs st.hp) \/∃q c b,kS (cX st.tm t)=some q/\ni st.hp.get q=some c/\a.hp=st.hp.put q (some (oV b)):=by
 unfold evalOp at h;split at h;·cases h
 ·simp only[bG]at h;obtain⟨tm',e,rfl⟩:=h;exact .inl rfl
 split at h;·rename_i x bs g;simp only[bG]at h;obtain⟨tm',e,rfl⟩:=h;exact .inr (.inl ⟨bs,rfl⟩)
 split at h;·cases h
 split at h;·rename_i x H f;simp only[bG]at h;obtain⟨tm',e,rfl⟩:=h;exact .inr (.inr (UB d f))
 cases h
theorem QF{o:Oper}{st e:St}(k:py E o=true)(h:evalOp E pc tc nt dep true ops o st=some e):e.hp=st.hp:=by
 obtain⟨c,g,d,f,hm,l,m⟩:=Lj k;unfold evalOp at h;split at h;·cases h
 ·simp only[bG]at h;obtain⟨tm',j,rfl⟩:=h;rfl
 split at h
 ·rename_i x bs b;exfalso;unfold cI at b;simp only[d,f]at b;split at b;·cases b
  simp only[yf,aL,kT,hm,if_true,zh]at b;cases b
 split at h;·cases h
 split at h
 ·rename_i x H a;simp only[bG]at h;obtain⟨tm',j,rfl⟩:=h;unfold evalW at a;simp only[d,f]at a;split at a;·cases a
  rw[l]at a;cases hw:nc E pc tc st.hp ⟨dep,o.dst.getD 0,st.hp.gen dep (o.dst.getD 0),0⟩ (aL st.tm (.func g)) _ with
  | none=>rw[hw]at a;simp[rD]at a
  | some p=>
   obtain⟨y,H'⟩:=p;rw[hw]at a;unfold rD at a;simp only at a;split at a;·cases a;rfl
   cases a
 cases h
theorem Te{o:Oper}{st a:St}{t:Tmp}(b:Ho o.op=some t)(h:evalOp E pc tc nt dep true ops o st=some a) :
 a.hp=st.hp\/(∃bs,a.hp=keyed ⟨dep,o.dst.getD 0,st.hp.gen dep (o.dst.getD 0),0⟩ 0 bs st.hp) \/∃c d y z x,kS y=kS (cX st.tm t)/\jU E.P st.hp c d y z=some (x,a.hp):=by
 unfold evalOp at h;split at h;·cases h
 ·simp only[bG]at h;obtain⟨tm',e,rfl⟩:=h;exact .inl rfl
 split at h;·rename_i x bs k;simp only[bG]at h;obtain⟨tm',e,rfl⟩:=h;exact .inr (.inl ⟨bs,rfl⟩)
 split at h;·cases h
 split at h;·rename_i x H j;simp only[bG]at h;obtain⟨tm',e,rfl⟩:=h;obtain⟨c,d,y,z,g,f⟩:=VD b j;exact .inr (.inr ⟨c,d,y,z,x,g,f⟩)
 cases h
theorem GR{H:aa}{d t:Nat}{bs:List aY}{q:Ref}(h:(keyed ⟨d,t,H.gen d t,0⟩ 0 bs H).get q≠H.get q):Made H (keyed ⟨d,t,H.gen d t,0⟩ 0 bs H) q:=by
 rw[aa.mV]at h;unfold sj at h;split at h
 ·rename_i g;obtain⟨f,b,a,c⟩:=g;refine⟨?_,?_⟩;·rw[f,b,a];exact bg _
  rw[aa.mj,if_pos ⟨f,b,by intro e;rw[e]at c;simp at c⟩,a];exact qp _
 exact absurd rfl h
include A in
theorem JH{i n:Nat}(a:i<=n)(g:n<=ops.size){t:Tmp}(c : ∀k,jv ops k=some t->k<i):cX (sts n).tm t=cX (sts i).tm t:=by
 induction n with| zero=>rw[Fk.1 a]| succ n f=>
  rcases eU n i with h | h
  ·rw[show i=n+1 by omega]
  have b:=kn (show n<ops.size from g);obtain⟨x,d⟩:=KY (A n _ b);rw[vn d,if_neg,f h (by omega)];intro e;have:=c n (by simp[jv,b,e]);omega
variable(B:ops.toList.all (Hk E (sts ops.size))=true)
include C A B
theorem F6{i:Nat}{o:Oper}(O:ops[i]?=some o):xB (sts i).hp (sts (i+1)).hp/\(cls E o<3 ->∀d t,(sts (i+1)).hp.gen d t=(sts i).hp.gen d t) /\
 (cls E o≠2 ->∀q,turns sts i q->makes sts i q\/cls E o=4 /\∃t,mI E o=some t/\kS (cX (sts i).tm t)=some q):=by
 have h:=A i o O;have hle:=DS E o;have U:cls E o=0\/cls E o=1\/cls E o=2\/cls E o=3\/cls E o=4:=by omega
 have same:(sts (i+1)).hp=(sts i).hp->xB (sts i).hp (sts (i+1)).hp/\(cls E o<3 ->∀d t,(sts (i+1)).hp.gen d t=(sts i).hp.gen d t) /\
  (cls E o≠2 ->∀q,turns sts i q->makes sts i q\/cls E o=4 /\∃t,mI E o=some t/\kS (cX (sts i).tm t)=some q):=by
  intro e;refine⟨by rw[e];exact xB.refl _,λ_ d t=>by rw[e],λ_ q f=>?_⟩;unfold turns at f;rw[e]at f;exact absurd rfl f
 rcases U with c | c | c | c | c
 ·exact same (z6 (.inl c) h)
 ·exact same (z6 (.inr c) h)
 ·obtain⟨ty,t,x,V,hs⟩:=Qb c;cases J:wanted ops (sts i).tm o with
  | none=>unfold evalOp at h;rw[J]at h;cases h
  | some b=>
   cases b with| false=>unfold evalOp at h;rw[J]at h;simp only[bG]at h;obtain⟨tm',_,e⟩:=h;exact same (by rw[<-e])| true=>obtain⟨y,hW,_⟩:=Gb V h J;exact⟨KD hW,λ_ d t=>Nj hW d t,λhn=>absurd c hn⟩
 ·have R:=(Al c).2;rcases nY h with ⟨_,tm',m,he⟩ | ⟨_,x,bs,f,tm',m,he⟩ | p
  ·exact same (by rw[he])
  ·have e:(sts (i+1)).hp=keyed ⟨dep,o.dst.getD 0,(sts i).hp.gen dep (o.dst.getD 0),0⟩ 0 bs (sts i).hp:=(by rw[he]);refine⟨by rw[e];exact xB.keyed _ _ _ _,λl=>by omega,λ_ q f => .inl ?_⟩;unfold turns at f;unfold makes;rw[e]at f ⊢;exact GR f
  rw[R]at p;cases p
 cases K:py E o with| true=>exact same (QF K h)| false=>
 obtain⟨t,m,S⟩:=C.stay i o O (by omega) (by omega) K;have T : ∀bs,(sts (i+1)).hp=keyed ⟨dep,o.dst.getD 0,(sts i).hp.gen dep (o.dst.getD 0),0⟩ 0 bs (sts i).hp->xB (sts i).hp (sts (i+1)).hp/\(cls E o<3 ->∀d t,(sts (i+1)).hp.gen d t=(sts i).hp.gen d t) /\
  (cls E o≠2 ->∀q,turns sts i q->makes sts i q\/cls E o=4 /\∃t,mI E o=some t/\kS (cX (sts i).tm t)=some q):=by
  intro bs e;refine⟨by rw[e];exact xB.keyed _ _ _ _,λl=>by omega,λ_ q f => .inl ?_⟩;unfold turns at f;unfold makes;rw[e]at f ⊢;exact GR f
 cases L:Aw o.op with
 | false=>
  have j:F3 o.op=some t:=by rw[My c,L]at m;simpa using m
  cases s:Rx o.op with
  | some t'=>
   have e':t'=t:=by unfold F3 at j;rw[s]at j;simpa using j
   subst e';rcases step_map s h with e | ⟨bs,e⟩ | ⟨q,Z,X,f,hm,e⟩
   ·exact same e
   ·exact T bs e
   refine⟨by rw[e];exact xB.map hm,λl=>by omega,λ_ q' g => .inr ⟨c,t',m,?_⟩⟩;unfold turns at g;rw[e,aa.ab]at g;split at g;·rename_i e2;subst e2;exact f
   exact absurd rfl g
  | none=>
  have G:Ho o.op=some t:=by unfold F3 at j;rw[s]at j;exact j
  rcases Te G h with e | ⟨bs,e⟩ | ⟨t1,t2,y,z,x,hy,W⟩
  ·exact same e
  ·exact T bs e
  obtain⟨hm,r,hr,f⟩:=Jv W;refine⟨hm,λl=>by omega,λ_ q g=>?_⟩;rcases f q g with k | k
  ·exact .inl k
  subst k;exact .inr ⟨c,t,m,by rw[<-hy];exact hr⟩
 | true=>
  have N:ZU o.op=some t:=by rw[My c,L]at m;simpa using m
  rcases WH N h with e | ⟨bs,e⟩ | ⟨t1,n,i',x,W⟩
  ·exact same e
  ·exact T bs e
  obtain⟨hm,f⟩:=Dj W;refine⟨hm,λl=>by omega,λ_ q g=>?_⟩;rcases f q g with k | k
  ·exact .inl k
  refine .inr ⟨c,t,m,?_⟩;have Q:(E.gB o&&Aw o.op)=true:=by
   have J:jj E o=true:=by
    unfold cls at c;split at c
    ·split at c;·cases c
     split at c;·cases c
     split at c;·assumption
     cases c
    cases c
   unfold jj at J;rcases Fv.1 J with u | u
   ·exfalso;replace u:=(wD.1 u).2;unfold Aw at L;split at L;·rename_i Y;rw[Y]at u;cases u
    cases L
   exact u
  have hi:i<ops.size:=(iT.1 O).1;have a:=dY.1 B o (fZ (i:=i) (by simpa using O));unfold Hk at a;rw[Q,N]at a;simp only[ze,xC]at a;rw[JH A (ji hi) (bg ops.size) S]at a;simp only[vG,List.map_nil,bH,lU,Bo,oD]at k;revert a k;generalize cX (sts i).tm t=v;intro a k;cases v with
  | bA r off len cap=>simp only[af,depth,k9]at k;rw[k];rfl
  | v y=>simp[af,depth]at k
  | _=>cases a
theorem rE{i n:Nat}(a:i<=n)(c:n<=ops.size)(d t:Nat):(sts i).hp.gen d t<=(sts n).hp.gen d t:=by
 induction n with| zero=>rw[Fk.1 a];exact bg _| succ n b=>
  rcases eU n i with h | h
  ·rw[show i=n+1 by omega];exact bg _
  exact vj (b h (by omega)) ((F6 C A B (kn (show n<ops.size from c))).1.gen d t)
theorem Nr{M:Mem}{ι:Map}{w:World}(F:gA M ι (sts 0).hp.get w)(D:rN ι (sts 0).hp){n:Nat}(j:n<=ops.size) : ∀q,(sts n).hp.get q≠none->q.g<(sts n).hp.gen q.d q.t:=by
 induction n with
 | zero=>
  intro q h;cases c:(sts 0).hp.get q with
  | none=>exact absurd c h
  | some k=>obtain⟨l,f,_⟩:=F.live q k c;exact D q l f
 | succ n e=>
  intro q h;have b:=(F6 C A B (kn (show n<ops.size from j))).1;rcases b.born q h with a | a
  ·exact yD (e (by omega) q a) (b.gen _ _)
  exact a.2
theorem aei{M:Mem}{ι:Map}{w:World}(F:gA M ι (sts 0).hp.get w)(D:rN ι (sts 0).hp){i:Nat}{r:Ref}{b:aY}(a:(sts i).hp.get r=some b){n:Nat}(j:i<=n)(q:n<=ops.size) : ∀e,(sts n).hp.get r=some e->e.arr=b.arr:=by
 induction n with| zero=>intro e h;rw[Fk.1 j]at a;rw[a]at h;cases h;rfl| succ n m=>
  intro e h;rcases eU n i with p | c
  ·rw[show i=n+1 by omega]at a;rw[a]at h;cases h;rfl
  have l:=(F6 C A B (kn (show n<ops.size from q))).1;rcases l.born r (by rw[h];simp)with f | f
  ·cases g:(sts n).hp.get r with
   | none=>exact absurd g f
   | some k=>rw[l.arr r k e g (Nr C A B F D (by omega) r f) h];exact m c (by omega) k g
  have u:=Nr C A B F D (show i<=ops.size by omega) r (by rw[a];simp);have s:=rE C A B c (by omega) r.d r.t;have:=f.1;omega
theorem DI{j b:Nat}{q:Ref}(f:j<ops.size)(c:b<ops.size)(h:makes sts j q)(e:makes sts b q):j=b:=by
 rcases Bq j b with a | rfl | a
 ·have:=rE C A B (show j+1<=b from a) (ji c) q.d q.t;have:=h.2;have:=e.1;omega
 ·rfl
 have:=rE C A B (show b+1<=j from a) (ji f) q.d q.t;have:=e.2;have:=h.1;omega
theorem zx{j:Nat}{q:Ref}{o:Oper}(c:ops[j]?=some o)(h:makes sts j q):3<=cls E o:=by
 rcases eU (cls E o) 3 with a | b
 ·have:=(F6 C A B c).2.1 a q.d q.t;have f:=h.1;have e:=h.2;omega
 exact b
variable{M:Mem}{ι:Map}{w:World}
variable(F:gA M ι (sts 0).hp.get w)(D:rN ι (sts 0).hp)(G:(qV E ops).all (Ee (sts ops.size).tm)=true)(I:ops.toList.all (xa (sts ops.size))=true)
include F D I
theorem Pq{i:Nat}{o:Oper}(l:ops[i]?=some o)(W:cls E o=2)(O:wanted ops (sts i).tm o=some true) :
 ∃ty t k r h j b x n es',o.op = .store ty (.tmp t) k/\mI E o=some t/\cX (sts i).tm t = .ptr r h j/\(sts i).hp.get r=some b/\b.arr=false/\b.gB=false/\aL (sts i).tm k=some x/\aH E.P ty=some n /\
  x.cells.length=n/\x.cells.all AV.one=true/\gr b.es h j x.cells=some es'/\(sts (i+1)).hp=(sts i).hp.put r (some { b with es:=es'})/\dg nt (sts i).tm o.dst AV.undef=some (sts (i+1)).tm:=by
 have hi:i<ops.size:=(iT.1 l).1;obtain⟨ty,t,k,f,m⟩:=Qb W;obtain⟨y,c,L⟩:=Gb f (A i o l) O;obtain⟨t',g,J⟩:=C.stay i o l (by omega) (by omega) (rY m);rw[m]at g;cases g;have e:=JH A (ji hi) (bg ops.size) J;have a:=dY.1 I o (fZ (i:=i) (by simpa using l));unfold xa at a;rw[f]at a;simp only[e]at a;have T:=c;unfold iV at c;split at c
 ·rename_i r' h j N n v Q V;simp only[dV]at v;rw[v]at a;simp only at a;split at c
  ·rename_i b K;obtain⟨⟨u,p,q⟩,c⟩:=eQ.1 c;have d:b.arr=false:=by
    split at a;·rename_i R z;rw[<-aei C A B F D K (ji hi) (bg _) R z];simpa using a
    cases a
   rw[if_neg (by simp[d])]at c;simp only[bG]at c;obtain⟨es',s,c⟩:=c;injection c with S U
   subst S;exact⟨ty,t,k,r',h,j,b,N,n,es',f,m,v,K,d,q,Q,V,u,p,s,U.symm,L⟩
  cases c
 cases c
theorem F5{j:Nat}{o:Oper}(a:ops[j]?=some o){q:Ref}(h:turns sts j q):makes sts j q\/(cls E o=2\/cls E o=4) /\∃t,mI E o=some t/\kS (cX (sts j).tm t)=some q:=by
 by_cases d:cls E o=2
 ·cases hw:wanted ops (sts j).tm o with| none=>have:=A j o a;unfold evalOp at this;rw[hw]at this;cases this| some b=>
   cases b with
   | false=>have:=A j o a;unfold evalOp at this;rw[hw]at this;simp only[bG]at this;obtain⟨tm',_,e⟩:=this;unfold turns at h;rw[<-e]at h;exact absurd rfl h
   | true=>
    obtain⟨ty,t,u,r,m,p,b,x,n,es',k,f,g,s,_,_,_,_,_,_,_,he,_⟩:=Pq C A B F D I a d hw;refine .inr ⟨.inl d,t,f,?_⟩;unfold turns at h;rw[he,aa.ab]at h;split at h;·rename_i e;subst e;rw[g];rfl
    exact absurd rfl h
 rcases(F6 C A B a).2.2 d q h with c | ⟨c,l⟩
 ·exact .inl c
 exact .inr ⟨.inr c,l⟩
omit A F D I C B in
theorem Un{L:Nat->Bool}(g:pD ops L){i:Nat}{o:Oper}(m:ops[i]?=some o)(hi:L i=false)(c : ∀e∈fh o,L e=true){j:Nat}{f:Oper}(b:ops[j]?=some f)
 (h:j<i->((dM ops.toList []).getD i 0).testBit j=true) (l:i<j->((dM ops.toList []).getD j 0).testBit i=true):(L j=true↔j<i):=by
 constructor
 ·intro d;rcases Bq j i with a | rfl | a
  ·exact a
  ·rw[hi]at d;cases d
  have:=uO g j f b (λe k=>g j f d b e k) i (l a);rw[hi]at this;cases this
 intro a;exact uO g i o m c j (h a)
omit F D I B in
include G in
theorem Um{L:Nat->Bool}(U:pD ops L){i:Nat}{o:Oper}(u:ops[i]?=some o)(hi:L i=false)(z : ∀e∈fh o,L e=true)(d:cls E o=1\/cls E o=2){t:Tmp}(v:mI E o=some t){q:Ref}(x:kS (cX (sts i).tm t)=some q)
 {j:Nat} {l:Oper} (k:ops[j]?=some l) (g:cls E l=2\/cls E l=4) {t':Tmp} (m:mI E l=some t') (n:kS (cX (sts j).tm t')=some q):(L j=true↔j<i):=by
 have K:i<ops.size:=(iT.1 u).1;have N:j<ops.size:=(iT.1 k).1;obtain⟨t1,Q,s1⟩:=C.stay i o u (by omega) (by omega) (rY v);obtain⟨t2,R,s2⟩:=C.stay j l k (by omega) (by omega) (rY m);rw[v]at Q;cases Q;rw[m]at R;cases R;have T:=JH A (ji K) (bg ops.size) s1;have S:=JH A (ji N) (bg ops.size) s2;rw[<-T]at x;rw[<-S]at n;have V : ∀a b,mI E a=some t->mI E b=some t' ->¬(settled E ops a b=true):=by
  intro a b O J c;unfold settled at c;rw[O,J]at c;simp only[jt,Jj]at c;have f:=dY.1 G;rcases c with c | c
  ·have:=f _ c;unfold Ee at this;simp only[x,n]at this;simp at this
  have:=f _ c;unfold Ee at this;simp only[x,n]at this;simp at this
 have y : ∀a b,mI E a=some t'->mI E b=some t ->¬(settled E ops a b=true):=by
  intro a b O J c;unfold settled at c;rw[O,J]at c;simp only[jt,Jj]at c;have f:=dY.1 G;rcases c with c | c
  ·have:=f _ c;unfold Ee at this;simp only[x,n]at this;simp at this
  have:=f _ c;unfold Ee at this;simp only[x,n]at this;simp at this
 refine Un U u hi z k (λp=>?_) (λp=>?_)
 ·by_cases s:Ct (cls E o) (cls E l)=true
  ·rcases C.meet i j o l u k p s (rY v) (rY m)with h | h
   ·exact h
   exact absurd h (V o l v m)
  refine C.must i j o l u k p ?_;unfold pM blind;rcases d with d | d<;>rcases g with g | g<;>rw[d,g]at s ⊢ <;> first | rfl | exact absurd rfl s
 by_cases s:Ct (cls E l) (cls E o)=true
 ·rcases C.meet j i l o k u p s (rY m) (rY v)with h | h
  ·exact h
  exact absurd h (y l o m v)
 refine C.must j i l o k u p ?_;unfold pM blind;rcases d with d | d<;>rcases g with g | g<;>rw[d,g]at s ⊢ <;> first | rfl | exact absurd rfl s
omit A F D I B in
theorem sQ{L:Nat->Bool}(u:pD ops L){i:Nat}{o:Oper}(p:ops[i]?=some o)(hi:L i=false)(l : ∀e∈fh o,L e=true)(s:3<=cls E o)
 {j:Nat} {d:Oper} (g:ops[j]?=some d) (n:blind E o=false\/cls E d≠2) (k:ox E o d=false/\ox E d o=false) (c:cls E d=2\/cls E d=4\/cls E o=4/\3<=cls E d):(L j=true↔j<i):=by
 have v:=DS E o;have x:=DS E d;have q:pM E o d=true/\pM E d o=true:=by
  unfold pM;rw[k.1,k.2];have a:cls E o=3\/cls E o=4:=by omega
  rcases c with c | c | ⟨m,c⟩
  ·have t:=n.resolve_right (λh=>h c);rcases a with a | a<;>rw[a,c,t]<;>exact⟨rfl,rfl⟩
  ·rcases a with a | a<;>rw[a,c]<;>simp
  have b:cls E d=3\/cls E d=4:=(by omega);rcases b with b | b<;>rw[m,b]<;>simp
 exact Un u p hi l g (λf=>C.must i j o d p g f q.1) (λf=>C.must j i d o g p f q.2)
end
end
section
section
variable{E:Env}{pc:FuncId->List AV->Option AV}{tc:tE->List AV->aa->cJ}{nt dep:Nat}{ops:Array Oper}{sts:Nat->St}
variable(C:acf E ops)(A : ∀i o,ops[i]?=some o->evalOp E pc tc nt dep true ops o (sts i)=some (sts (i+1)))
variable{M:Mem}{ι:Map}{w:World}{ds:List Deferred}
structure VT (E:Env) (ops:Array Oper) (sts:Nat->St) (M:Mem) (ι:Map) (w:World) (L:Nat->Bool) (M1:Mem) (ι1:Map) (g1:cL) (c:Nat) (w1:World):Prop where
 sim:gA M1 ι1 g1 w1
 fwd:tz M ι (sts 0).hp.get w M1 ι1 g1 w1
 le:c<=ops.size
 cut : ∀j o,j<c->ops[j]?=some o->3<=cls E o->L j=true
 hand : ∀q,ι1 q≠none->q.g<(sts c).hp.gen q.d q.t \/∃j,j<ops.size/\L j=true/\c<=j/\makes sts j q
 get : ∀q,∃n,n<=ops.size/\g1 q=(sts n).hp.get q /\∀j,j<ops.size->turns sts j q->(L j=true↔j<n)
structure VU (E:Env) (nt:Nat) (ops:Array Oper) (sts:Nat->St) (M:Mem) (ι:Map) (w:World) (ds:List Deferred) (L:Nat->Bool) (a1:Act) (w1:World):Prop where
 closed:pD ops L
 defers:a1.defers=ds
 at_ : ∃M1 ι1 tm1 g1 c,TS ops sts L tm1/\TR M1 ι1 tm1 a1/\a1.tmps.size=nt/\VT E ops sts M ι w L M1 ι1 g1 c w1
theorem AK{a b:Nat}{q:Ref}(h:a<=b)(c : ∀j,a<=j->j<b ->¬turns sts j q):(sts b).hp.get q=(sts a).hp.get q:=by
 induction b with| zero=>rw[Fk.1 h]| succ b f=>
  rcases eU b a with e | d
  ·rw[show a=b+1 by omega]
  have:=c b d (qp b);unfold turns at this;rw[vk.1 this];exact f d λj g k=>c j g (by omega)
theorem VT.MJ{L:Nat->Bool}{s:Mem}{f:Map}{m:cL}{c:Nat}{p:World}(h:VT E ops sts M ι w L s f m c p){q:Ref}{i:Nat}(hi:i<=ops.size)(l : ∀j,j<ops.size->turns sts j q->(L j=true↔j<i)):m q=(sts i).hp.get q:=by
 obtain⟨n,u,e,k⟩:=h.get q;rw[e];rcases Nat.le_total n i with hle | hle
 ·exact(AK hle λj t g d=>by
   have a:=k j (by omega) d;have b:=l j (by omega) d;have:=a.1 (b.2 g);omega).symm
 exact AK hle λj t g d=>by
  have a:=k j (by omega) d;have b:=l j (by omega) d;have:=b.1 (a.2 g);omega
variable(B:ops.toList.all (Hk E (sts ops.size))=true)
include C A B
theorem Cw{L:Nat->Bool}{z:Mem}{b:Map}{J:cL}{c:Nat}{x:World}(F:gA M ι (sts 0).hp.get w)(D:rN ι (sts 0).hp)(h:VT E ops sts M ι w L z b J c x){i:Nat}(n:i<ops.size)(hi:L i=false){q:Ref}
 (y:(sts i).hp.get q≠none) (u:b q≠none) {j:Nat} (e:j<ops.size) (g:makes sts j q):(L j=true↔j<i):=by
 constructor
 ·intro f;rcases eU j i with a | m
  ·exact a
  have v:=Nr C A B F D (ji n) q y;have k:=rE C A B m (ji e) q.d q.t;have:=g.1;omega
 intro a;rcases h.hand q u with v | ⟨K,p,f,_,l⟩
 ·have s:j<c:=by
   rcases eU j c with k | k
   ·exact k
   have:=rE C A B k (ji e) q.d q.t;have:=g.1;omega
  exact h.cut j _ s (kn e) (zx C A B (kn e) g)
 rw[DI C A B e p g l];exact f
variable(F:gA M ι (sts 0).hp.get w)(D:rN ι (sts 0).hp)(G:(qV E ops).all (Ee (sts ops.size).tm)=true)(I:ops.toList.all (xa (sts ops.size))=true)
include F D G I
theorem Iq{L:Nat->Bool}(N:pD ops L){K:Mem}{d:Map}{u:cL}{c:Nat}{y:World}(h:VT E ops sts M ι w L K d u c y){i:Nat}{o:Oper}(s:ops[i]?=some o)(hi:L i=false)(l : ∀e∈fh o,L e=true)
 (m:cls E o=1\/cls E o=2) {t:Tmp} (v:mI E o=some t) {q:Ref} (z:kS (cX (sts i).tm t)=some q) (a:(sts i).hp.get q≠none) (x:d q≠none) :
 u q=(sts i).hp.get q /\∀j,j<ops.size->turns sts j q->(L j=true↔j<i):=by
 have b:i<ops.size:=(iT.1 s).1;have key : ∀j,j<ops.size->turns sts j q->(L j=true↔j<i):=by
  intro j p J;have f:=kn p;rcases F5 C A B F D I f J with hm | ⟨n,t',g,k⟩
  ·exact Cw C A B F D h b hi a x p hm
  exact Um C A G N s hi l m v z f n g k
 exact⟨h.MJ (ji b) key,key⟩
theorem Rz(hpc : ∀f xs y,pc f xs=some y->ja E.P f xs y)(htc : ∀f xs H y H',tc f xs H=some (y,H')->il E.P f xs H y H'){ro:Option Nat}{Q:Exit->Act->World->Prop}
 {L L':Nat->Bool} {i:Nat} {o:Oper} (ho:ops[i]?=some o) (hi:L i=false) (hed : ∀e∈fh o,L e=true)
 (O : ∀j,L' j=true↔(L j=true\/j=i)) {a1:Act} {w1:World} (hI:VU E nt ops sts M ι w ds L a1 w1) {K:Act->World->Prop} (hK : ∀a' w',VU E nt ops sts M ι w ds L' a' w'->K a' w') :
 if Region.wanted o (yielded ops a1.tmps) then o.wpIn (FW ro) 0 E.P a1 w1 K Q else K (a1.put o.dst undef) w1:=by
 obtain⟨hc,hds,M1,X,tm1,g1,c,hTS,W,hnt,S⟩:=hI;have N:i<ops.size:=(iT.1 ho).1;have hc':pD ops L':=pD.next hc ho hed O;have hlook : ∀t∈o.looksAt ops,cX tm1 t=cX (sts i).tm t:=λt ht=>Gs C.toRegB A hc ho hi hed hTS ht;have hag:=zI hlook;have hwd:=xG hlook;have step:=A i o ho;have hle4:=DS E o;have fin : ∀(u:Value)(x:AV)(R:List AV)(w':World)(M':Mem)(ι':Map),(sts (i+1)).hp=(sts i).hp->dg nt (sts i).tm o.dst x=some (sts (i+1)).tm->dg nt tm1 o.dst x=some R ->
  TR M' ι' R (a1.put o.dst u)->(a1.put o.dst u).tmps.size=nt->gA M' ι' g1 w'->tz M1 X g1 w1 M' ι' g1 w'->(∀q,ι' q≠none->X q≠none)->VU E nt ops sts M ι w ds L' (a1.put o.dst u) w':=by
  intro u x R w' M' ι' hsame hx Y htr hn hS' hF' hι;refine⟨hc',(iC _ _ _).trans hds,M',ι',R,g1,c,tI C.toRegB ho O hi hTS hx Y,htr,hn,hS',S.fwd.trans hF',S.le,λj oj hj s hcj=>(O j).2 (.inl (S.cut j oj hj s hcj)),λq hq=>?_,λq=>?_⟩
  ·rcases S.hand q (hι q hq)with h | ⟨j,h1,h2,h3,h4⟩
   ·exact .inl h
   exact .inr ⟨j,h1,(O j).2 (.inl h2),h3,h4⟩
  obtain⟨n,h1,h2,h3⟩:=S.get q;refine⟨n,h1,h2,λj hj hT=>?_⟩;have J:j≠i:=by intro e;subst e;exact hT (by rw[hsame])
  rw[<-h3 j hj hT,O j];simp[J]
 have hkeyfree : ∀k:Nat,X { (⟨dep+1,0,(sts ops.size).hp.gen (dep+1) 0,0⟩:Ref)with k:=k}=none:=by
  intro k;cases hq:X { (⟨dep+1,0,(sts ops.size).hp.gen (dep+1) 0,0⟩:Ref)with k:=k} with
  | none=>rfl
  | some l=>
   exfalso;rcases S.hand _ (by rw[hq];simp)with h | ⟨j,h1,_,_,h4⟩
   ·have:=rE C A B S.le (bg _) (dep+1) 0;simp only at h;omega
   have:=rE C A B (show j+1<=ops.size from h1) (bg _) (dep+1) 0;have:=h4.2;simp only at this;omega
 have quiet : ∀ {x:AV} {tm':List AV},(sts (i+1)).hp=(sts i).hp->dg nt (sts i).tm o.dst x=some (sts (i+1)).tm ->
  cI E pc true g1 tm1 ⟨dep+1,0,(sts ops.size).hp.gen (dep+1) 0,0⟩ o=some (x,[])->o.wpIn (FW ro) 0 E.P a1 w1 K Q:=by
  intro x tm' hsame hx hq;obtain⟨R,Y⟩:=lA (tm1:=tm1) hx;refine xt (E:=E) (o:=o) S.sim W rfl hkeyfree hpc (λh=>by cases h) hq ro K Q λu w' ⟨M',ι',h1,h2,h3,h4⟩=>hK _ _ ?_;rw[nj]at h2 h3;obtain⟨h5,h6⟩:=(W.mono h3.mem h3.map).put hnt Y h1;refine fin u x R w' M' ι' hsame hx Y h5 h6 h2 h3 λq hq hn=>hq (h4 q hn (λk hk=>by simp at hk))
 have hno:wanted ops (sts i).tm o=some false->if Region.wanted o (yielded ops a1.tmps) then o.wpIn (FW ro) 0 E.P a1 w1 K Q else K (a1.put o.dst undef) w1:=by
  intro hw;have hw1:=hw;rw[<-hwd]at hw1;rw[jT W hw1];simp only[gj,iQh];unfold evalOp at step;rw[hw]at step;simp only[bG]at step;obtain⟨tm',ht,he⟩:=step;have hx:dg nt (sts i).tm o.dst AV.undef=some (sts (i+1)).tm:=by rw[<-he];exact ht
  obtain⟨R,Y⟩:=lA (tm1:=tm1) hx;obtain⟨h1,h2⟩:=W.put hnt Y (u:=undef) (.v rfl);exact hK _ _ (fin undef AV.undef R w1 M1 X (by rw[<-he]) hx Y h1 h2 S.sim tz.refl λ_ h=>h)
 have maker : ∀ {d:Nat} {x:AV} {bs:List aY},3<=cls E o->(sts (i+1)).hp=keyed ⟨dep,d,(sts i).hp.gen dep d,0⟩ 0 bs (sts i).hp->dg nt (sts i).tm o.dst x=some (sts (i+1)).tm ->
  cI E pc true g1 tm1 ⟨dep,d,(sts i).hp.gen dep d,0⟩ o=some (x,bs)->(∀k,X { (⟨dep,d,(sts i).hp.gen dep d,0⟩:Ref)with k:=k}=none)->o.wpIn (FW ro) 0 E.P a1 w1 K Q:=by
  intro d x bs Z hhp hx hq' hfree;obtain⟨R,Y⟩:=lA (tm1:=tm1) hx;refine xt (E:=E) (o:=o) S.sim W rfl hfree hpc (λh=>by cases h) hq' ro K Q λu w' ⟨M',ι',h1,h2,h3,h4⟩=>hK _ _ ?_;obtain⟨h5,h6⟩:=(W.mono h3.mem h3.map).put hnt Y h1;refine⟨hc',(iC _ _ _).trans hds,M',ι',R,sj g1 ⟨dep,d,(sts i).hp.gen dep d,0⟩ bs,c,tI C.toRegB ho O hi hTS hx Y,h5,h6,h2,S.fwd.trans h3,S.le,λj oj hj s hcj=>(O j).2 (.inl (S.cut j oj hj s hcj)),λq hq=>?_,λq=>?_⟩
  ·by_cases hq1:X q=none
   ·by_cases hk : ∃k,k<bs.length/\q = { (⟨dep,d,(sts i).hp.gen dep d,0⟩:Ref)with k:=k}
    ·obtain⟨k,hk,e⟩:=hk;refine .inr ⟨i,N,(O i).2 (.inr rfl),?_,?_⟩
     ·rcases eU i c with U | U
      ·have:=S.cut i o U ho (by omega);rw[hi]at this;cases this
      exact U
     subst e;refine⟨bg _,?_⟩;simp only;rw[hhp,aa.mj,if_pos ⟨rfl,rfl,by intro e;rw[e]at hk;simp at hk⟩];exact qp _
    exact absurd (h4 q hq1 λk hk' e=>hk ⟨k,hk',e⟩) hq
   rcases S.hand q hq1 with h | ⟨j,g1',g2,g3,g4⟩
   ·exact .inl h
   exact .inr ⟨j,g1',(O j).2 (.inl g2),g3,g4⟩
  by_cases hk:q.d=dep/\q.t=d/\q.g=(sts i).hp.gen dep d/\q.k<bs.length
  ·have hmk:makes sts i q:=(by obtain⟨k1,k2,k3,k4⟩:=hk;refine⟨by rw[k1,k2,k3];exact bg _,?_⟩;rw[hhp,aa.mj,if_pos ⟨k1,k2,by intro e;rw[e]at k4;simp at k4⟩,k3];exact qp _);refine⟨i+1,N,?_,λj hj hT=>?_⟩;·rw[hhp,aa.mV];unfold sj;rw[if_pos hk,if_pos hk]
   rw[O j];by_cases J:j=i;·subst J;simp
   have s:=kn hj;have hturn:turns sts i q:=(by obtain⟨k1,k2,k3,k4⟩:=hk;intro e;have h5:(sts i).hp.get q≠none:=(by rw[<-e,hhp,aa.mV];unfold sj;rw[if_pos ⟨k1,k2,k3,k4⟩,de k4];simp);have:=Nr C A B F D (ji N) q h5;rw[k1,k2,k3]at this;exact absurd this (vH _));have hnot : ¬j<i:=by
    intro hji';obtain⟨k1,k2,k3,k4⟩:=hk;have hlive : ∀m,m<=i->(sts m).hp.get q≠none->False:=by
     intro m hm V;have h6:=Nr C A B F D (vj hm (ji N)) q V;have h7:=rE C A B hm (ji N) q.d q.t;rw[k1,k2]at h6 h7;rw[k3]at h6;omega
    by_cases h8:(sts j).hp.get q=none;·exact hlive (j+1) hji' (λh9=>hT (by rw[h8,h9]))
    exact hlive j (ji hji') h8
   have:(L j=true↔j<i):=by
    obtain⟨n',k1,k2,k3⟩:=S.get q;have h9:=k3 i N hturn;rw[hi]at h9;have h10:=k3 j hj hT;rw[h10];constructor
    ·intro h11;have : ¬i<n':=λh=>by simpa using h9.2 h
     omega
    intro h11;exact absurd h11 hnot
   rw[this];constructor
   ·rintro(h | h);·omega
    exact absurd h J
   intro h;left;omega
  obtain⟨n',k1,k2,k3⟩:=S.get q;refine⟨n',k1,?_,λj hj hT=>?_⟩;·unfold sj;rw[if_neg hk];exact k2
  have J:j≠i:=(by intro e;subst e;refine hT ?_;rw[hhp,aa.mV];unfold sj;rw[if_neg hk]);rw[<-k3 j hj hT,O j];simp[J]
 cases hwt:wanted ops (sts i).tm o with| none=>unfold evalOp at step;rw[hwt]at step;cases step| some b=>
 cases b with| false=>exact hno hwt| true=>
 have hw1:=hwt;rw[<-hwd]at hw1;have hcs:cls E o=0\/cls E o=1\/cls E o=2\/cls E o=3\/cls E o=4:=by omega
 rcases hcs with Z | Z | Z | Z | Z
 ·rw[jT W hw1];simp only[if_true];have hh:=Hg Z;rcases nY step with ⟨hw,_,_,_⟩ | ⟨hw,x,bs,hq,tm',ht,he⟩ | hwk
  ·rw[hwt]at hw;cases hw
  ·obtain⟨hbs,hall⟩:=xl hh hq;subst hbs;exact quiet (tm':=tm') (z6 (.inl Z) step) (by rw[he];exact ht) (by rw[sV hag];exact hall _ _)
  rw[iv hwk]at hh;cases hh
 ·rw[jT W hw1];simp only[if_true];obtain⟨t,T,hst,hwk⟩:=Kf Z;rcases nY step with ⟨hw,_,_,_⟩ | ⟨hw,x,bs,hq,tm',ht,he⟩ | hwk'
  ·rw[hwt]at hw;cases hw
  ·obtain⟨hbs,hall⟩:=LH T hq;subst hbs;refine quiet (tm':=tm') (z6 (.inr Z) step) (by rw[he];exact ht) ?_;rw[sV hag];refine hall g1 _ λq hrq V=>?_;refine(Iq C A B F D G I hc S ho hi hed (.inl Z) hst hrq V ?_).1;have ht1:cX tm1 t=cX (sts i).tm t:=by
    refine hlook t ?_;unfold Oper.looksAt;refine D3 _ (List.mem_filterMap.2 ⟨.tmp t,?_,rfl⟩);unfold AW at T;split at T;·rename_i hop;cases T;rw[hop];simp[Op.operands]
    ·rename_i hop;cases T;rw[hop];simp[Op.operands]
    ·rename_i hop;cases T;rw[hop];simp[Op.operands]
    ·rename_i hop;split at T;·cases T
     cases T;rw[hop];simp[Op.operands]
    ·rename_i hop;cases T;rw[hop];simp[Op.operands]
    ·rename_i c hop;split at T
     ·split at T
      ·rename_i hargs;cases T;rw[hop];have:(Operand.tmp t)∈c.args:=by rw[<-Array.mem_toList_iff,hargs];simp
       simp only[Op.operands,Call.operands];simp[this]
      cases T
     cases T
    cases T
   have hv:=W.at_ t;rw[ht1]at hv;revert hrq hv;generalize cX (sts i).tm t=v;generalize a1.tmps.getD t undef=u;intro hrq hv;cases hv with
   | ptr hr hzl=>cases hrq;rw[hr];simp
   | bA hr=>cases hrq;rw[hr];simp
   | dsl hr=>cases hrq;rw[hr];simp
   | mp hr=>cases hrq;rw[hr];simp
   | ch hr=>cases hrq;rw[hr];simp
   | _=>cases hrq
  rw[hwk]at hwk';cases hwk'
 ·rw[jT W hw1];simp only[if_true];obtain⟨ty,t,xo,r,i',j',b,x,n,es',hop,hs,hta,hb,harr,hfr,hxo,hn,hxn,hx1,hes,he,hx⟩:=Pq C A B F D I ho Z hwt;have hmem : ∀y,y = .tmp t\/y=xo->aL tm1 y=aL (sts i).tm y:=(by intro y hy;refine hag y ?_;rw[hop];rcases hy with rfl | rfl<;>simp[Op.operands]);have hpv:=aU W (x := .tmp t) (y := .ptr r i' j') (by rw[hmem _ (.inl rfl)];simp only[aL,hta]);have hxv:=aU W (x:=xo) (y:=x) (by rw[hmem _ (.inr rfl)];exact hxo);have hhand:X r≠none:=(by revert hpv;generalize a1.eval (.tmp t)=u;intro hpv;cases hpv with | ptr hr hzl=>rw[hr];simp);obtain⟨hg,hord⟩:=Iq C A B F D G I hc S ho hi hed (.inr Z) hs (q:=r) (by rw[hta];rfl) (by rw[hb];simp) hhand;rw[hb]at hg;obtain⟨w',hr,hS',hF'⟩:=KW (P:=E.P) S.sim hn hpv hxv hg hxn hx1 hfr harr hes;obtain⟨R,Y⟩:=lA (tm1:=tm1) hx;have hok:eR E.P o a1 w1 λu w2=>u=undef/\w2=w':=eR.E2 (by simp[execOp,hop,hr]) ⟨rfl,rfl⟩;refine hok ro K Q λu w2 ⟨e1,e2⟩=>hK _ _ ?_;subst e1;subst e2;obtain⟨h5,h6⟩:=(W.mono hF'.mem hF'.map).put hnt Y (u:=undef) (.v rfl);refine⟨hc',(iC _ _ _).trans hds,M1,X,R,lL g1 r { b with es:=es'},c,tI C.toRegB ho O hi hTS hx Y,h5,h6,hS',S.fwd.trans hF',S.le,λj oj hj s hcj=>(O j).2 (.inl (S.cut j oj hj s hcj)),λq hq=>?_,λq=>?_⟩
  ·rcases S.hand q hq with h | ⟨j,h1,h2,h3,h4⟩
   ·exact .inl h
   exact .inr ⟨j,h1,(O j).2 (.inl h2),h3,h4⟩
  by_cases hqr:q=r
  ·subst hqr;refine⟨i+1,N,?_,λj hj hT=>?_⟩;·rw[he,aa.ab,if_pos rfl];unfold lL;rw[if_pos rfl]
   rw[O j];by_cases J:j=i;·subst J;simp
   rw[hord j hj hT];constructor
   ·rintro(h | h);·omega
    exact absurd h J
   intro h;left;omega
  obtain⟨n',h1,h2,h3⟩:=S.get q;refine⟨n',h1,?_,λj hj hT=>?_⟩;·unfold lL;rw[if_neg hqr];exact h2
  have J:j≠i:=(by intro e;subst e;refine hT ?_;rw[he,aa.ab,if_neg hqr]);rw[<-h3 j hj hT,O j];simp[J]
 ·rw[jT W hw1];simp only[if_true];obtain⟨hh,hwk⟩:=Al Z;rcases nY step with ⟨hw,_,_,_⟩ | ⟨hw,x,bs,hq,tm',ht,he⟩ | hwk'
  ·rw[hwt]at hw;cases hw
  ·obtain⟨d,hd⟩:=ib.1 (C.made i o ho Z);rw[hd,cb]at hq he;have hx:dg nt (sts i).tm o.dst x=some (sts (i+1)).tm:=by rw[he];exact ht
   obtain⟨R,Y⟩:=lA (tm1:=tm1) hx;have hhp:(sts (i+1)).hp=keyed ⟨dep,d,(sts i).hp.gen dep d,0⟩ 0 bs (sts i).hp:=by rw[he]
   have hloc:blind E o=false->C4 X (sts i).hp.get g1:=by
    intro hbl q b hg V;rw[<-hg];refine S.MJ (ji N) λj hj hT=>?_;have s:=kn hj;rcases F5 C A B F D I s hT with hm | ⟨hcj,_⟩
    ·exact Cw C A B F D S N hi (by rw[hg];simp) V hj hm
    exact sQ C hc ho hi hed (by omega) s (.inl hbl) ⟨RK hbl,ow (by omega)⟩ (by omega)
   rw[<-sV hag]at hq;have hq':cI E pc true g1 tm1 ⟨dep,d,(sts i).hp.gen dep d,0⟩ o=some (x,bs):=by
    cases hbl:blind E o with| true=>exact Vw hbl hq| false=>exact DP S.sim (hloc hbl) W hq
   have hfree : ∀k,X { (⟨dep,d,(sts i).hp.gen dep d,0⟩:Ref)with k:=k}=none:=by
    intro k;cases hqk:X { (⟨dep,d,(sts i).hp.gen dep d,0⟩:Ref)with k:=k} with
    | none=>rfl
    | some l=>
     exfalso;rcases S.hand _ (by rw[hqk];simp)with h | ⟨j,h1,h2,h3,h4⟩
     ·simp only at h;rcases eU i c with U | U
      ·have:=S.cut i o U ho (by omega);rw[hi]at this;cases this
      have:=rE C A B U (ji N) dep d;omega
     have s:=kn h1;have h5:=h4.1;have h6:=h4.2;simp only at h5 h6;rcases Bq j i with J | J | J
     ·have:=rE C A B (show j+1<=i from J) (ji N) dep d;omega
     ·subst J;rw[hi]at h2;cases h2
     have hcj:=zx C A B s h4;have hc4:cls E ops[j]=3\/cls E ops[j]=4:=by have:=DS E ops[j];omega
     rcases hc4 with hc3 | hc4
     ·obtain⟨dj,hdj⟩:=ib.1 (C.made j _ s hc3);have hstepj:=A j _ s;have V:d≠dj:=(by intro e;have:=C.distinct i j o ops[j] d ho s hd (by rw[hdj,e]);omega);rcases nY hstepj with ⟨_,_,_,he2⟩ | ⟨_,_,bs2,_,_,_,he2⟩ | hwk2
      ·rw[he2]at h6;dsimp only at h6;omega
      ·rw[he2]at h6;simp only[hdj,cb]at h6;rw[aa.mj,if_neg (by intro hcc;exact V hcc.2.1)]at h6;omega
      rw[(Al hc3).2]at hwk2;cases hwk2
     cases hha:ox E o ops[j] with
     | true=>
      have V:=Om (E:=E) (wD.1 hha).1 hq;have hmk:makes sts i { (⟨dep,d,(sts i).hp.gen dep d,0⟩:Ref)with k:=k}:=⟨bg _,by
       simp only;rw[hhp,aa.mj,if_pos ⟨rfl,rfl,V⟩];exact qp _⟩
      have:=DI C A B h1 N h4 hmk;omega
     | false=>have:=(sQ C hc ho hi hed (by omega) s (.inr (by omega)) ⟨hha,ow (by omega)⟩ (.inr (.inl hc4))).1 h2;omega
   exact maker (by omega) hhp hx hq' hfree
  rw[hwk]at hwk';cases hwk'
 have hb4:blind E o=false:=by unfold blind;rw[Z];rfl
 cases hat:((Ho o.op).isSome&&o.dst.isSome) with
 | true=>
  rw[jT W hw1];simp only[if_true];obtain⟨hat1,hat2⟩:=wD.1 hat;obtain⟨t,ht⟩:=ib.1 hat1;obtain⟨d,hd⟩:=ib.1 hat2;have hloc:C4 X (sts i).hp.get g1:=by
   intro q b hg V;rw[<-hg];refine S.MJ (ji N) λj hj hT=>?_;have s:=kn hj;rcases F5 C A B F D I s hT with hm | ⟨hcj,_⟩
   ·exact Cw C A B F D S N hi (by rw[hg];simp) V hj hm
   exact sQ C hc ho hi hed (by omega) s (.inl hb4) ⟨ow (by omega),ow (by omega)⟩ (by omega)
  rcases QG ht hwt step with ⟨x,bs,tm',hq,hx,he⟩ | ⟨c',y,z,x,hop,hcal,hargs,hA,hy,hx⟩
  ·rw[hd,cb]at hq he;have hx2:dg nt (sts i).tm o.dst x=some (sts (i+1)).tm:=by rw[he];exact hx
   have hhp:(sts (i+1)).hp=keyed ⟨dep,d,(sts i).hp.gen dep d,0⟩ 0 bs (sts i).hp:=(by rw[he]);rw[<-sV hag]at hq;refine maker (by omega) hhp hx2 (DP S.sim hloc W hq) λk=>?_;cases hqk:X { (⟨dep,d,(sts i).hp.gen dep d,0⟩:Ref)with k:=k} with
   | none=>rfl
   | some l=>
    exfalso;rcases S.hand _ (by rw[hqk];simp)with h | ⟨j,h1,h2,h3,h4⟩
    ·simp only at h;rcases eU i c with U | U
     ·have:=S.cut i o U ho (by omega);rw[hi]at this;cases this
     have:=rE C A B U (ji N) dep d;omega
    have s:=kn h1;have h5:=h4.1;have h6:=h4.2;simp only at h5 h6;rcases Bq j i with J | J | J
    ·have:=rE C A B (show j+1<=i from J) (ji N) dep d;omega
    ·subst J;rw[hi]at h2;cases h2
    have hcj:=zx C A B s h4;have hc4:cls E ops[j]=3\/cls E ops[j]=4:=by have:=DS E ops[j];omega
    rcases hc4 with hc3 | hc4
    ·obtain⟨dj,hdj⟩:=ib.1 (C.made j _ s hc3);have hstepj:=A j _ s;have V:d≠dj:=(by intro e;have:=C.distinct i j o ops[j] d ho s hd (by rw[hdj,e]);omega);rcases nY hstepj with ⟨_,_,_,he2⟩ | ⟨_,_,bs2,_,_,_,he2⟩ | hwk2
     ·rw[he2]at h6;dsimp only at h6;omega
     ·rw[he2]at h6;simp only[hdj,cb]at h6;rw[aa.mj,if_neg (by intro hcc;exact V hcc.2.1)]at h6;omega
     rw[(Al hc3).2]at hwk2;cases hwk2
    have:=(sQ C hc ho hi hed (by omega) s (.inr (by omega)) ⟨ow (by omega),ow (by omega)⟩ (.inr (.inl hc4))).1 h2;omega
  have hmapM:c'.args.toList.mapM (aL tm1)=some [y,z]:=by
   rw[<-hargs];refine mapM_congr λa ha=>hag a ?_;rw[hop];have:a∈c'.args:=by simpa using ha
   simp[Op.operands,Call.operands,this]
  have hvs:=ml W hmapM;obtain⟨u,v,hu1⟩:=yn hvs.1.symm;rw[hu1]at hvs;have vy:=hvs.2 0 y u rfl rfl;have vz:=hvs.2 1 z v rfl rfl;have hnew0 : ∀r',kS y=some r'->(sts i).hp.get r'≠none->makes sts i ⟨r'.d,r'.t,(sts i).hp.gen r'.d r'.t,0⟩:=(by intro r' hr' V;obtain⟨r2,b2,z2,es2,f2,e1,e2,e3,e4⟩:=AE hA;rw[hr']at e1;cases e1;refine⟨bg _,?_⟩;simp only;rw[e4,Kq (by rw[e2];rfl),if_pos ⟨rfl,rfl⟩];exact qp _);have hrefs : ∀r',kS y=some r'->X r'≠none:=by
   intro r' hr';revert vy hr';generalize y=v;intro vy hr';cases vy with
   | ptr hr hzl=>cases hr';rw[hr];simp
   | bA hr=>cases hr';rw[hr];simp
   | dsl hr=>cases hr';rw[hr];simp
   | mp hr=>cases hr';rw[hr];simp
   | ch hr=>cases hr';rw[hr];simp
   | _=>cases hr'
  obtain⟨r',b,k',e1,e2,hqr,e3,u',w',ι',hr',hv',hS',hF',hι'⟩:=KH (P:=E.P) (ty:=o.type) (H:=(sts i).hp) S.sim vy vz (λr' hr' V=>by
   cases hb:(sts i).hp.get r' with| none=>exact absurd hb V| some b=>exact hloc r' b hb (hrefs r' hr')) (λe p hp=>IE hloc vz hp) (λr' hr' V=>by
   cases hqk:X ⟨r'.d,r'.t,(sts i).hp.gen r'.d r'.t,0⟩ with| none=>rfl| some l=>
    exfalso;rcases S.hand _ (by rw[hqk];simp)with h | ⟨j,h1,h2,h3,h4⟩
    ·simp only at h;rcases eU i c with U | U
     ·have:=S.cut i o U ho (by omega);rw[hi]at this;cases this
     have:=rE C A B U (ji N) r'.d r'.t;omega
    have:=DI C A B h1 N h4 (hnew0 r' hr' V);subst this;rw[hi]at h2;cases h2) hA
  have hmk:=hnew0 r' e1 (by rw[e2];simp);obtain⟨R,Y⟩:=lA (tm1:=tm1) hx;have hok:eR E.P o a1 w1 λu2 w2=>u2=u'/\w2=w':=(by refine eR.jZ ?_ ⟨rfl,rfl⟩;have hsame:c'.args.map a1.eval = #[u,v]:=(by apply Jc.1;rw[Array.toList_map,hu1]);simp only[execOp,hop,resolve,hcal,invoke,iQe,iQj,iQd,hsame];show(do pure (Next.value (<-Builtin.append_ c'.argTypes o.type #[u,v])):Sem Next).run E.P w1=_;exact Gj hr');refine hok ro K Q λu2 w2 ⟨f1,f2⟩=>hK _ _ ?_;subst f1;subst f2;obtain⟨h5,h6⟩:=(W.mono hF'.mem hF'.map).put hnt Y hv';refine⟨hc',(iC _ _ _).trans hds,M1,ι',R,_,c,tI C.toRegB ho O hi hTS hx Y,h5,h6,hS',S.fwd.trans hF',S.le,λj oj hj s hcj=>(O j).2 (.inl (S.cut j oj hj s hcj)),λq hq=>?_,λq=>?_⟩
  ·by_cases hqq:q=⟨r'.d,r'.t,(sts i).hp.gen r'.d r'.t,0⟩
   ·refine .inr ⟨i,N,(O i).2 (.inr rfl),?_,by rw[hqq];exact hmk⟩;rcases eU i c with U | U
    ·have:=S.cut i o U ho (by omega);rw[hi]at this;cases this
    exact U
   by_cases hq1:X q=none;·exact absurd (hι' q hq1 hqq) hq
   rcases S.hand q hq1 with h | ⟨j,g1',g2,g3,g4⟩
   ·exact .inl h
   exact .inr ⟨j,g1',(O j).2 (.inl g2),g3,g4⟩
  have hat3:(sts (i+1)).hp.get q=lL (rI (sts i).hp.get r') ⟨r'.d,r'.t,(sts i).hp.gen r'.d r'.t,0⟩ k' q:=(by rw[e3,get_append _ _ _ _ hqr]);by_cases hqq:q=⟨r'.d,r'.t,(sts i).hp.gen r'.d r'.t,0⟩
  ·refine⟨i+1,N,by rw[hat3];unfold lL;rw[if_pos hqq,if_pos hqq],λj hj hT=>?_⟩;rw[O j];by_cases J:j=i;·subst J;simp
   have hturn:turns sts i q:=by
    intro e;have h5:(sts i).hp.get q≠none:=by
     rw[<-e,hat3];unfold lL;rw[if_pos hqq];simp
    have:=Nr C A B F D (ji N) q h5;rw[hqq]at this;exact absurd this (vH _)
   have hnot : ¬j<i:=by
    intro hji';have hlive : ∀m,m<=i->(sts m).hp.get q≠none->False:=by
     intro m hm V;have h6:=Nr C A B F D (vj hm (ji N)) q V;have h7:=rE C A B hm (ji N) q.d q.t;rw[hqq]at h6 h7;simp only at h6 h7;omega
    by_cases h8:(sts j).hp.get q=none;·exact hlive (j+1) hji' (λh9=>hT (by rw[h8,h9]))
    exact hlive j (ji hji') h8
   have:(L j=true↔j<i):=by
    obtain⟨n',k1,k2,k3⟩:=S.get q;have h9:=k3 i N hturn;rw[hi]at h9;have h10:=k3 j hj hT;rw[h10];constructor
    ·intro h11;have : ¬i<n':=λh=>by simpa using h9.2 h
     omega
    intro h11;exact absurd h11 hnot
   rw[this];constructor
   ·rintro(h | h);·omega
    exact absurd h J
   intro h;left;omega
  by_cases hqr2:q=r'
  ·refine⟨i+1,N,by rw[hat3];unfold lL rI;rw[if_neg hqq,if_neg hqq,if_pos hqr2,if_pos hqr2],λj hj hT=>?_⟩;rw[O j];by_cases J:j=i;·subst J;simp
   have s:=kn hj;have:(L j=true↔j<i):=by
    rcases F5 C A B F D I s hT with hm | ⟨hcj,_⟩
    ·exact Cw C A B F D S N hi (by rw[hqr2,e2];simp) (by rw[hqr2];exact hrefs r' e1) hj hm
    exact sQ C hc ho hi hed (by omega) s (.inl hb4) ⟨ow (by omega),ow (by omega)⟩ (by omega)
   rw[this];constructor
   ·rintro(h | h);·omega
    exact absurd h J
   intro h;left;omega
  obtain⟨n',k1,k2,k3⟩:=S.get q;refine⟨n',k1,?_,λj hj hT=>?_⟩;·unfold lL rI;rw[if_neg hqq,if_neg hqr2];exact k2
  have J:j≠i:=(by intro e;subst e;refine hT ?_;rw[hat3];unfold lL rI;rw[if_neg hqq,if_neg hqr2]);rw[<-k3 j hj hT,O j];simp[J]
 | false=>
 have hha : ∀oj,ox E o oj=false/\ox E oj o=false:=λoj=>⟨ow (by omega),RL hat⟩;have hall : ∀q j,j<ops.size->turns sts j q->(L j=true↔j<i):=by
  intro q j hj hT;have s:=kn hj;refine sQ C hc ho hi hed (by omega) s (.inl hb4) (hha _) ?_;rcases F5 C A B F D I s hT with hm | ⟨hcj,_⟩
  ·exact .inr (.inr ⟨Z,zx C A B s hm⟩)
  omega
 have hg:g1=(sts i).hp.get:=funext λq=>S.MJ (ji N) (hall q);have hD:rN X (sts i).hp:=by
  intro q l hq;rcases S.hand q (by rw[hq];simp)with h | ⟨j,h1,h2,h3,h4⟩
  ·rcases eU i c with U | U
   ·have:=S.cut i o U ho (by omega);rw[hi]at this;cases this
   exact yD h (rE C A B U (ji N) _ _)
  have s:=kn h1;have J:=(sQ C hc ho hi hed (by omega) s (.inl hb4) (hha _) (.inr (.inr ⟨Z,zx C A B s h4⟩))).1 h2;exact yD h4.2 (rE C A B (show j+1<=i from J) (ji N) _ _)
 have hO:yy M1 X ⟨tm1,(sts i).hp⟩ nt a1 w1:=⟨by rw[<-hg];exact S.sim,hD,W,hnt⟩;obtain⟨x,R,hx,Y,hev⟩:=IV hlook step;refine DQ (E:=E) (Q:=Q) hO hpc htc (λh=>by cases h) (.inl rfl) hev λa' w' ⟨⟨M',ι',hO',hF'⟩,hd'⟩=>hK a' w' ⟨hc',hd'.trans hds,M',ι',R,(sts (i+1)).hp.get,i+1,tI C.toRegB ho O hi hTS hx Y,hO'.tr,hO'.nt,hO'.sim,?_,N,?_,?_,?_⟩;·have:=S.fwd;rw[hg]at this;exact this.trans hF'
 ·intro j oj hj s hcj;by_cases J:j=i;·exact(O j).2 (.inr J)
  exact(O j).2 (.inl ((sQ C hc ho hi hed (by omega) s (.inl hb4) (hha _) (.inr (.inr ⟨Z,hcj⟩))).2 (by omega)))
 ·intro q hq;cases hqq:ι' q with
  | none=>exact absurd hqq hq
  | some l=>exact .inl (hO'.dom q l hqq)
 intro q;refine⟨i+1,N,rfl,λj hj hT=>?_⟩;rw[O j];by_cases J:j=i;·subst J;simp
 rw[hall q j hj hT];constructor
 ·rintro(h | h);·omega
  exact absurd h J
 intro h;left;omega
omit F D G I in
theorem LI{L:Nat->Bool}(d : ∀i,i<ops.size->L i=true){a m:Act}{J:World}(s:a.defers=ds)(Q:VU E nt ops sts M ι w ds L m J):kD M ι (sts 0) a w nt (sts ops.size) m J:=by
 obtain⟨U,v,N,k,tm1,T,c,n,y,z,g⟩:=Q;have x : ∀t,cX tm1 t=cX (sts ops.size).tm t:=by
  intro t;obtain⟨u,R⟩:=n t;obtain⟨O,p⟩:=JE C.toRegB A ops.size (bg _) t;by_cases e : ∃j,j<ops.size/\jv ops j=some t;·obtain⟨j,b,hd⟩:=e;rw[u j b (d j b) hd,O j b (by simpa using b) hd]
  rw[R λj b _ hd=>e ⟨j,b,hd⟩,p λj b _ hd=>e ⟨j,b,hd⟩]
 have f:TR N k (sts ops.size).tm m:=⟨λt=>by rw[<-x];exact y.at_ t⟩;have K:T=(sts ops.size).hp.get:=funext λq=>g.MJ (bg _) λj b _=>⟨λ_=>b,λ_=>d j b⟩;refine⟨⟨N,k,⟨by rw[<-K];exact g.sim,?_,f,z⟩,by rw[<-K];exact g.fwd⟩,v.trans s.symm⟩;intro q l S;rcases g.hand q (by rw[S];simp)with h | ⟨j,u,_,_,p⟩
 ·exact yD h (rE C A B g.le (bg _) _ _)
 exact yD p.2 (rE C A B (show j+1<=ops.size from u) (bg _) _ _)
theorem XN(hpc : ∀f J y,pc f J=some y->ja E.P f J y)(htc : ∀f J H y H',tc f J H=some (y,H')->il E.P f J H y H'){ro:Option Nat}{a0:Act}(x:a0.defers=ds){Q:Exit->Act->World->Prop}
 (hQ : ∀U w',kD M ι (sts 0) a0 w nt (sts ops.size) U w'->Q .normal U w') : ∀(b:Nat)(a:Array Bool)(N:Act)(S:World),a.size=ops.size ->
 (List.range ops.size).countP (λi => !a.getD i false)<=b->VU E nt ops sts M ι w ds (λi=>a.getD i false) N S->wpAnyIn (FW ro) 0 E.P .any ops Q b a N S:=by
 have BM : ∀ {a:Array Bool},a.size=ops.size->Region.ready .any ops a=[] ->∀i,i<ops.size->a.getD i false=true:=by
  intro a g h i;induction i using Nat.strongRecOn with | ind i X=>
  intro hi;cases v:a.getD i false with
  | true=>rfl
  | false=>
   exfalso;have l:=kn hi;have hl':a.getD i true=false:=by
    have:i<a.size:=(by omega);simpa [Array.getD,this] using v
   have:i∈Region.ready .any ops a:=(by rw[iQx];refine⟨hl',_,l,λe T hb=>?_⟩;have s:e.on∈fh ops[i]:=(by unfold fh;exact j6.2 ⟨e,C9.2 ⟨by simpa using T,hb⟩,rfl⟩);have c:=C.edges i _ l _ s;exact X e.on c (by omega));rw[h]at this;cases this
 intro b;induction b with
 | zero=>
  intro a N S g hf O;have k : ∀i,i<ops.size->a.getD i false=true:=by
   intro i hi;cases v:a.getD i false with
   | true=>rfl
   | false=>exfalso;have:0<(List.range ops.size).countP (λi => !a.getD i false):=List.countP_pos_iff.2 ⟨i,wz.2 hi,by rw[v];rfl⟩;omega
  refine⟨?_,hQ _ _ (LI C A B k x O)⟩;refine SG.2 λi hi=>?_;rw[iQx]at hi;obtain⟨u,o,l,_⟩:=hi;have c:i<ops.size:=(iT.1 l).1;have R:=k i c;have:i<a.size:=by omega
  simp[Array.getD,this]at u R;rw[R]at u;cases u
 | succ b X=>
  intro a N S g hf O;refine⟨λhr=>hQ _ _ (LI C A B (BM g hr) x O),λi hi=>?_⟩;rw[iQx]at hi;obtain⟨u,o,l,V⟩:=hi;have c:i<ops.size:=(iT.1 l).1;have t:i<a.size:=by omega
  have z:a.getD i false=false:=(by simpa [Array.getD,t] using u);have n : ∀e∈fh o,(λi=>a.getD i false) e=true:=(by intro e T;unfold fh at T;obtain⟨d,hd,rfl⟩:=j6.1 T;obtain⟨R,h2⟩:=C9.1 hd;exact V d (by simpa using R) h2);have q : ∀j,(λj=>(a.setIfInBounds i true).getD j false) j=true↔((λj=>a.getD j false) j=true\/j=i):=by
   intro j;simp only;by_cases m:j=i;·subst m;simp[t]
   rw[getD_set_ne false (rO m)];simp[m]
  have:=Rz (E:=E) (tc:=tc) (ro:=ro) (K:=wpAnyIn (FW ro) 0 E.P .any ops Q b (a.setIfInBounds i true)) (Q:=Q) C A B F D G I hpc htc (L:=λi=>a.getD i false) l z n q O λU w' W=>by
   refine X _ U w' (by simp[g]) ?_ W;have:=Eu (p:=λj => !a.getD j false) (p':=λj => !(a.setIfInBounds i true).getD j false) (i:=i) (λj Z=>by
    simp only[gz]at Z ⊢;cases v:a.getD j false with
    | false=>rfl
    | true=>have:=(q j).2 (.inl v);simp only at this;rw[this]at Z;cases Z) (by simp only[z,xE]) (by have:=(q i).2 (.inr rfl);simp only at this ⊢;rw[this];rfl) (List.range ops.size) (wz.2 c)
   omega
  unfold wpOpIn;rw[l];simp only;split;·rename_i Y;rw[if_pos Y]at this;exact this
  rename_i Y;rw[if_neg Y]at this;exact⟨λ_ _=>trivial,this⟩
end
def Ml{E:Env}(N:E.P.follows .mixedOrders=true){ops:Array Oper}(b:UE E ops=true){pc:FuncId->List AV->Option AV}(p : ∀f m y,pc f m=some y->ja E.P f m y)
 {tc:tE->List AV->aa->cJ} (u : ∀f m H y H',tc f m H=some (y,H')->il E.P f m H y H') {nt dep id:Nat} {st st':St} {M:Mem} {ι:Map} {a:Act} {w:World} {ro:Option Nat} {Q:Exit->Act->World->Prop}
 (h:nw E pc tc nt dep true ops ops.toList st=some st') (G:sA E ops st'=true) (d:yy M ι st nt a w) (O : ∀x w',kD M ι st a w nt st' x w'->Q .normal x w'):(Code.region id ops true).wpIn (FW ro) 0 E.P Q a w:=by
 obtain⟨sts,K,v,z⟩:=Gl ops.toList st st' h;rw[Az]at v;have C:=XG b;have A : ∀i o,ops[i]?=some o->evalOp E pc tc nt dep true ops o (sts i)=some (sts (i+1)):=λi o R=>z i o (by simpa using R);subst K;subst v;have s:(qV E ops).isEmpty=false:=by
  unfold UE at b;rw[bt]at b;simpa using b.1
 unfold sA at G;rw[s,xC,bt,bt]at G;refine wpIn_region_any N ?_;have n:tz M ι (sts 0).hp.get w M ι (sts 0).hp.get { w with drawn:=w.drawn+1} :=
  ⟨rfl,rfl,rfl,bg _,λ_ _ _=>rfl,λ_ _ _ h=>h,λ_ _ h=>h,λr k l h J => .inr ⟨r,k,l,h,J,rfl⟩,λ_ _ _ h => .inl h⟩
 have c : ∀i,(Array.replicate ops.size false).getD i false=false:=by
  intro i;simp only[BY,M9];split<;>rfl
 refine XN (tc:=tc) (M:=M) (ι:=ι) (w:=w) (a0:=a) C A G.2.2 d.sim d.dom G.1 G.2.1 p u rfl O ops.size _ a _ (by simp) ?_ ?_;·exact vj iQK (by simp)
 refine⟨λi o hi=>?_,rfl,M,ι,(sts 0).tm,(sts 0).hp.get,0,?_,d.tr,d.nt,d.sim.drew rfl,n,s8 _,λj o e=>absurd e (Nat.not_lt_zero _),λq L=>?_,λq=>⟨0,s8 _,rfl,λj _ _=>⟨λe=>?_,λe=>absurd e (Nat.not_lt_zero _)⟩⟩⟩;·exact absurd ((c i).symm.trans hi) (by simp)
 ·exact λt=>⟨λi _ hi=>absurd ((c i).symm.trans hi) (by simp),λ_=>rfl⟩
 ·cases g:ι q with| none=>exact absurd g L| some l=>exact .inl (d.dom q l g)
 exact absurd ((c j).symm.trans e) (by simp)
end
end Go.Ab
namespace Go.Ab
open Go.ChangeShapes Go.WideShapes Go.RowKit
structure Kept (W W':World):Prop where
 os:W'.os=W.os
 output:W'.output=W.output
 size:W.heap.size<=W'.heap.size
 old : ∀b,b<W.heap.size->W'.heap[b]?=W.heap[b]?
def Kept.keptBut{W a:World}(h:Kept W a)(may:MemPlace->Prop):W.keptBut a may:=by
 refine⟨h.os,h.output,λi hi=>?_⟩;rw[h.old i hi];have:=kn hi;rw[this];cases W.heap[i]<;>simp
def Kept.frozen{W b:World}(h:Kept W b){a:Addr}(c:a.block<W.heap.size):b.frozen? a=W.frozen? a:=by
 unfold World.frozen?;rw[h.old _ c]
def Kept.same{W a:World}(h:Kept W a){p:MemPlace}(hp:p.block<W.heap.size):W.sameAt a p:=by
 cases p with| cell b off=>exact iQk (h.old b hp)| map b=>exact h.old b hp
section
variable{H:Type}{enc:TypeId × Value->H}{P:Program}
def JF{T:TypeId->Prop}(K:Kids P T)(J : ∀t e,T t->P.underlying t=some (.slice e)->0<P.cellsOf e){W m:World}(N:Kept W m){l:Nat->Bool}{a:Nat} : ∀ {b:List TypeId} {c:List Value} {ds:List (DataW H)} {ps:List MemPlace},(∀t∈b,T t) ->
 DataW.TrodAll enc P W a (λ_=>true) true b c ds ps->(∀p∈ps,l p.block=true)->DataW.TrodAll enc P m a l true b c ds ps:=by
 intro b c ds ps s h g;have k:=h.respare K J s g;have j:=h.lt;clear h g s;induction b generalizing c ds ps with
 | nil=>obtain⟨rfl,rfl,rfl⟩:=trodAll_nil k;exact trodAll_mk0
 | cons t b y=>obtain⟨v,z,d,u,p,q,rfl,rfl,rfl,⟨n,O⟩,L⟩:=trodAll_cons k;refine⟨p,q,⟨n,DataW.trod_carry n t _ _ O λx f=>N.same (j x (D3 _ f))⟩,y L λx f=>j x (Df _ f),rfl⟩
def Rq{T:TypeId->Prop}(K:Kids P T)(hz : ∀t e,T t->P.underlying t=some (.slice e)->0<P.cellsOf e){f:Func}{s:ChangeSpec}{apart fresh a again:Bool}{W u:World}{args:Array Value}{ds gs:List (DataW H)}{g:List MemPlace}
 (hT : ∀t∈f.params.toList,T t) (N:s.vars=[]) (U:DataW.Whole enc P f.params.toList s.vars apart W args.toList ds gs g) (Y:s.fn H ds = { results:=[.lit (.bool true)],args:=ds})
 {V:TypeId} (X:f.resultTypes = #[V]) (Q:P.underlying V=some .bool) (O:Kept W u):s.post enc P f apart fresh a again W args (.bool true) u:=by
 have J:=U;obtain⟨p,q,S,R,rfl,m,v⟩:=J;rw[N]at R;obtain⟨rfl,rfl⟩:=trodVars_none R;have n:=S.lt;have k:s.fn H (ds++[]) = { results:=[.lit (.bool true)],args:=ds}:=by rw[oD];exact Y
 have h : ∀(b:Nat)(d:Nat->Bool)(hd:Bool),DataW.TrodAll enc P u b d hd f.resultTypes.toList ((Value.bool true).resultList f.resultTypes.size) (s.fn H (ds++[])).results []:=by
  intro b d hd;rw[X,k];exact trodAll_mk1 (shut_bool Q true)
 have c : ∀d:Nat->Bool,(∀x∈p,d x.block=true)->DataW.TrodAll enc P u 0 d true f.params.toList args.toList (s.fn H (ds++[])).args p:=by
  intro d L;rw[k];exact JF K hz O hT S L
 have l : ∀d:Nat->Bool,DataW.TrodVars enc P u d s.vars (s.fn H (ds++[])).vars []:=by
  intro d;rw[N,k];rfl
 rw[oD]at v m;refine⟨ds,[],p++[],[],p,[],U,h _ _ _,c _ (λx z=>by simpa using n x z),l _,O.keptBut _,λ_=>?_⟩;have j:=trodAll_append (c (λ_=>true) (λ_ _=>rfl)) (h 0 (λ_=>true) true);rw[oD]at j;refine⟨ok_one X rfl (okWide_bool_mk Q true),_,[],p++[],⟨p,[],j,(by rw[N];rfl),rfl,?_,?_⟩,λx z _=>z⟩;·intro b y hp;rw[oD]at hp;rw[O.frozen (show(⟨b,y,none⟩:Addr).block<W.heap.size from n _ hp)];exact m b y hp
 intro Z;rw[oD];exact v Z
end
def OP{E:Env}{ok:Array Oper->Bool}(j:E.Ok ok){n:Nat}{f:FuncId}{g:List AV}(h:cY E (ck E n) f g=some (.v (.bool true))){W:World}{us:List Value}
 (k:lI (λb o=>W.cell? ⟨b,o,none⟩) dC g us):Calls E.P f us.toArray W λe d=>e = .returned (.bool true)/\Kept W d:=by
 refine((Qd j h).2 _ W us (λ_ _ _ h=>h) k).mono λe d ⟨v,M',he,hend⟩=>?_;obtain⟨ls,l,c,_⟩:=hend.res ⟨0,0,0,0⟩;have a:aj ⟨0,0,0,0⟩ depth (.v (.bool true)) []=(.v (.bool true),[]):=vB _ depth 1 _ _ rfl;rw[a]at c;cases c;exact⟨he,hend.os,hend.output,hend.size,hend.old⟩
def Ep(E:Env)(l:List FuncId):Bool:=l.all λf=>match E.P.funcs[f]? with
 | some fn => !(fn.name == "runtime.NumGoroutine")&&(match fn.body with | some c=>codeOk (zJ E) c | none=>true)
 | none=>false
def afx(ops:Array Oper)(i:Nat):Nat:=match ops[i]? with
 | some o=>(match o.dst with | some d=>d | none=>0)
 | none=>0
def wZ:List (Nat × Nat × Nat × List (Tmp × Tmp))->Array Oper->List (Tmp × Tmp)
 | [],_=>[]
 | (a,b,c,l) :: d,ops=>cond (Nat.beq b ops.size) (cond (Nat.beq a (afx ops 0)) (cond (Nat.beq c (afx ops (b - 1))) l (wZ d ops)) (wZ d ops)) (wZ d ops)
def QE(e:List (Nat × Nat × Nat))(o:Oper):Bool:=match o.op with
 | .call c=>(match c.callee with
  | .builtin .append=>(match o.dst,c.args.toList with
   | some d,[.tmp a,.tmp b]=>e.any λ(x,y,z)=>Nat.beq x d&&Nat.beq y a&&Nat.beq z b
   | _,_=>false)
  | .value (.tmp t)=>(match o.dst with
   | some d=>e.any λ(x,y,z)=>Nat.beq x d&&Nat.beq y t&&Nat.beq z 66666
   | none=>false)
  | .builtin .len=>(match o.dst with
   | some d=>e.any λ(x,y,z)=>Nat.beq x d&&Nat.beq y 0&&Nat.beq z 55555
   | none=>false)
  | _=>false)
 | .buildSlice _ n _=>(match o.dst with
  | some d=>e.any λ(x,y,z)=>Nat.beq x d&&Nat.beq y n&&Nat.beq z 77777
  | none=>false)
 | _=>false
def Uw:Option Operand->Bool
 | some (.const (.slice none 0 0))=>true
 | _=>false
def abb(o:Oper):Bool:=match o.op with
 | .call c=>(match c.callee with
  | .builtin .append=>Uw c.args[0]?
  | _=>false)
 | _=>false
def Nq(a:List (Nat × Nat × Nat))(o:Oper):Bool:=match o.op with
 | .buildSlice _ n _=>(match o.dst with
  | some d=>a.any λ(x,y,z)=>Nat.beq x d&&Nat.beq y n&&Nat.beq z 88888
  | none=>false)
 | .call c=>(match o.dst with
  | some d=>a.any λ(x,y,z)=>Nat.beq x d&&((Nat.beq y 0&&Nat.beq z 88888)||(Nat.beq z 88889&&(match c.callee with
   | .value (.func g)=>Nat.beq g y
   | _=>false)))
  | none=>false)
 | _=>false
def F7(a:List (Nat × Nat × Nat))(o:Oper):Bool:=abb o||QE a o
def Yh(P:Program)(l bk jE:List FuncId)(strict:Oper->Bool)(apart:Array Oper->List (Tmp × Tmp))(gB:Oper->Bool:=λ_=>false):Env := { gB:=gB,P:=P,strict:=strict,apart:=apart,mode:=λf=>if bk.contains f then (if jE.contains f then 3 else 1) else if jE.contains f then 2 else 0,allowed:=λf=>l.contains f,spec:=λ_ _=>none}
def uM(P:Program)(l bk jE:List FuncId)(strict:Oper->Bool:=λ_=>false)(apart:Array Oper->List (Tmp × Tmp):=λ_=>[])(gB:Oper->Bool:=λ_=>false)(EL:List (FuncId × List AV × AV):=[])(wide:Oper->Bool:=λ_=>false)(qC:FuncId->Option TypeId:=λ_=>none)(thrSpec:FuncId->List AV->aa->Option (AV × aa):=λ_ _ _=>none)(sm:ML:=N9):Env:=
 {gB:=gB,P:=P,strict:=strict,apart:=apart,mode:=λf=>if bk.contains f then (if jE.contains f then 3 else 1) else if jE.contains f then 2 else 0,allowed:=λf=>l.contains f,spec:=J1 EL,ok:=zJ (Yh P l bk jE strict apart gB),wide:=wide,qC:=qC,thrSpec:=thrSpec,sm:=sm}
def VC : ∀(n:Nat)(x y:AV),I3 n x y=true->x=y:=by
 intro n;induction n with
 | zero=>intro x y h;simp[I3]at h
 | succ n a=>
  intro x y h;unfold I3 at h;split at h;·rw[KI h]
  ·simp only[bt]at h;rw[qW a _ _ (kF h.1) h.2]
  ·simp only[bt,iQb]at h;rw[qW a _ _ (kF h.1.2) h.2,kF h.1.1.1,h.1.1.2]
  cases h
def UC{a ys:List AV}(h:UD a ys=true):a=ys:=by
 unfold UD at h;simp only[bt]at h;exact qW (VC 8) _ _ (kF h.1) h.2
def XF{P:Program}{T:List (FuncId × List AV × AV)}(b : ∀p∈T,ja P p.1 p.2.1 p.2.2){f:FuncId}{args:List AV}{y:AV}(h:J1 T f args=some y):ja P f args y:=by
 induction T with| nil=>cases h| cons p T c=>
  obtain⟨g,xs,z⟩:=p;unfold J1 at h;split at h;·rename_i a;simp only[bt]at a;cases h;have:=b _ (gD ..);simp only at this;rw[<-kF a.1,<-UC a.2];exact this
  exact c (λp hp=>b p (iS _ hp)) h
def J9{P:Program}{l bk jE:List FuncId}{strict:Oper->Bool}{apart:Array Oper->List (Tmp × Tmp)}{gB:Oper->Bool}{EL:List (FuncId × List AV × AV)}{wide:Oper->Bool}{qC:FuncId->Option TypeId}{thrSpec:FuncId->List AV->aa->Option (AV × aa)}{sm:ML}(hspec : ∀p∈EL,ja P p.1 p.2.1 p.2.2)(hm:P.follows .mixedOrders=true)(h0:Ep (uM P l bk jE strict apart gB) l=true)(hover : ∀f t,qC f=some t->wi P f t)(hthr : ∀f args H y H',thrSpec f args H=some (y,H')->il P (.fn f) args H y H') :
 (uM P l bk jE strict apart gB EL wide qC thrSpec sm).Ok (zJ (uM P l bk jE strict apart gB EL wide qC thrSpec sm)) where
 fns:=by
  intro f hf;have h:Ep (uM P l bk jE strict apart gB EL) l=true:=h0;have hf':f∈l:=by simpa [uM] using hf
  have:=dY.1 h f hf';split at this;·rename_i fn hfn;simp only[bt,gz]at this;refine⟨fn,hfn,this.1,λc hc=>?_⟩;have h2:=this.2;rw[hc]at h2;exact h2
  cases this
 specs:=λf args y h=>XF hspec h
 same:=rfl
 overs:=hover
 thrs:=hthr
 draws:=λops hok _ hpc _ htc nt dep id st st' M ι a w ro Q hr G hO hQ=>by
  rcases Fv.1 hok with h1 | h1
  ·exact Mj hm h1 hpc htc hr hO hQ
  exact Ml hm h1 hpc htc hr G hO hQ
def GP{P:Program} : ∀p∈([]:List (FuncId × List AV × AV)),ja P p.1 p.2.1 p.2.2:=λp hp=>by simp at hp
def Kk(P:Program)(f:Func):Bool:=match f.resultTypes.toList with
 | [t]=>(match P.underlying t with | some .bool=>true | _=>false)
 | _=>false
def OU{P:Program}{f:Func}(h:Kk P f=true) : ∃a,f.resultTypes = #[a]/\P.underlying a=some .bool:=by
 unfold Kk at h;split at h
 ·rename_i t b;split at h;·rename_i c;exact⟨t,by rw[<-Jc,b],c⟩
  cases h
 cases h
end Go.Ab
