/-
  Regions where stores, and what looks at memory at one place, come in any order. No statement of a seat is proved here.
-/
import Derived.ReadAgain
import Derived.OpenShut
import Derived.ChangeSame
import Derived.RowKit
import Derived.JoinedOf
import Derived.Test.YtmkmimgokagimaaGreatAbsDrawn
set_option linter.unusedVariables false
set_option linter.unusedSimpArgs false
set_option linter.unusedSectionVars false
set_option linter.unnecessarySimpa false
set_option linter.defProp false
namespace Go.Ab
section
structure acX (E:Env) (ops:Array Oper):Prop extends RegB ops where
 made : ∀(i:Nat)(o:Oper),ops[i]?=some o->cls E o=3->o.dst.isSome=true
 stay : ∀(i:Nat)(o:Oper),ops[i]?=some o->cls E o≠0->cls E o≠3->qF E o=false ->∃t,ni E o=some t /\∀k,jy ops k=some t->k<i
 must : ∀(i j:Nat)(oi oj:Oper),ops[i]?=some oi->ops[j]?=some oj->j<i->qV E oi oj=true->((du ops.toList []).getD i 0).testBit j=true
 meet : ∀(i j:Nat)(oi oj:Oper),ops[i]?=some oi->ops[j]?=some oj->j<i->DK (cls E oi) (cls E oj)=true->qF E oi=false->qF E oj=false->((du ops.toList []).getD i 0).testBit j=true\/settled E ops oi oj=true
def Fa(E:Env)(o:Oper):cls E o<=4:=by unfold cls;(repeat' split)<;>omega
def YQ{E:Env}{ops:Array Oper}(h:Wk E ops=true):acX E ops:=by
 unfold Wk at h;rw[aT]at h;replace h:=h.2;simp only[gx,yb]at h;have one : ∀(i:Nat)(o:Oper),ops[i]?=some o->(eS o).all (· < i)=true/\Rf E ops i o=true /\∀(j:Nat)(a:Oper),j<i->ops[j]?=some a->P3 E ops (du ops.toList []) o a i j=true:=by
  intro i o f;have e:i<ops.size:=(iO.1 f).1;have:=h i e;rw[f]at this;simp only[aT,gx,yb]at this;refine⟨by simpa using this.1.1,this.1.2,λj a d p=>?_⟩;have v:=this.2 j d;rw[p]at v;exact v
 have c : ∀(i j:Nat)(oi a:Oper),ops[i]?=some oi->ops[j]?=some a->j<i->y3 ops (du ops.toList []) oi a i j=true /\
  (!qV E oi a||((du ops.toList []).getD i 0).testBit j)=true/\(!DK (cls E oi) (cls E a)||qF E oi||qF E a||((du ops.toList []).getD i 0).testBit j||settled E ops oi a)=true:=by
  intro i j oi a e d b;have:=(one i oi e).2.2 j a b d;unfold P3 at this;rw[aT,aT]at this;exact⟨this.1.1,this.1.2,this.2⟩
 refine⟨RK (λi o f=>(one i o f).1) λi j oi a e d b=>(c i j oi a e d b).1,?_,?_,?_,?_⟩;·intro i o f y;have:=(one i o f).2.1;unfold Rf at this;rw[y]at this;exact this
 ·intro i o f z K q;have:=(one i o f).2.1;unfold Rf at this;have g:Pj ops i (ni E o)=true:=by
   split at this;·exact absurd (by assumption) z
   ·exact absurd (by assumption) K
   rw[q,Er]at this;exact this
  unfold Pj at g;split at g
  ·rename_i t J;refine⟨t,J,λk l=>?_⟩;simp only[gx,yb]at g;have m:k<ops.size:=by
    unfold jy at l;cases u:ops[k]? with
    | none=>rw[u]at l;cases l
    | some x=>exact(iO.1 u).1
   have:=g k m;rw[l]at this;simpa using this
  cases g
 ·intro i j oi a e d b n;have:=(c i j oi a e d b).2.1;rw[n]at this;simpa using this
 intro i j oi a e d b n r1 r2;have:=(c i j oi a e d b).2.2;rw[n,r1,r2]at this;simpa using this
def Made(H H':aa)(q:Ref):Prop:=H.gen q.d q.t<=q.g/\q.g<H'.gen q.d q.t
structure xU (H H':aa):Prop where
 gen : ∀d t,H.gen d t<=H'.gen d t
 born : ∀q,H'.get q≠none->H.get q≠none\/Made H H' q
 arr : ∀q b b',H.get q=some b->q.g<H.gen q.d q.t->H'.get q=some b'->b'.arr=b.arr
def xU.refl(H:aa):xU H H:=⟨λ_ _=>cH _,λ_ h => .inl h,λq b b' h _ a=>by rw[h]at a;cases a;rfl⟩
def xU.keyed(H:aa)(d t:Nat)(m:List aQ):xU H (keyed ⟨d,t,H.gen d t,0⟩ 0 m H):=by
 refine⟨λn t'=>?_,λq h=>?_,λq b b' h l c=>?_⟩
 ·rw[aa.mS];split;·rename_i a;obtain⟨rfl,rfl,_⟩:=a;exact Em _
  exact cH _
 ·rw[aa.nF]at h;unfold tN at h;split at h
  ·rename_i a;obtain⟨f,j,g,k⟩:=a;refine .inr ⟨?_,?_⟩;·rw[f,j,g];exact cH _
   rw[aa.mS,if_pos ⟨f,j,by intro e;rw[e]at k;simp at k⟩,g];exact rS _
  exact .inl h
 rw[aa.nF]at c;unfold tN at c;split at c;·rename_i a;obtain⟨f,j,g,k⟩:=a;rw[f,j,g]at l;exact absurd l (AH _)
 rw[h]at c;cases c;rfl
def LA{g:cF}{R:List Ref}{q:Ref}{b b':aQ}(h:g q=some b)(a:uK g R q=some b'):b'.arr=b.arr:=by
 unfold uK at a;split at a;·rw[h]at a;simp at a;rw[<-a]
 rw[h]at a;cases a;rfl
def IC{g:cF}{R:List Ref}{q:Ref}:uK g R q≠none->g q≠none:=by
 unfold uK;split;·intro h e;rw[e]at h;exact h rfl
 exact id
def xU.put{H:aa}{R:List Ref}{r:Ref}{b:aQ}{es:List AV}(c:(bV H R).get r=some b):xU H ((bV H R).put r (some { b with es})):=by
 refine⟨λd t=>?_,λq h=>?_,λq b1 b' h f a=>?_⟩;·rw[aa.jJ _ _ _ (by rw[c];rfl),aa.ij];exact cH _
 ·rw[aa.get_put]at h;split at h;·rename_i e;subst e;exact .inl (IC (R:=R) (by rw[<-aa.cX,c];simp))
  exact .inl (IC (R:=R) (by rw[<-aa.cX];exact h))
 rw[aa.get_put]at a;split at a;·rename_i e;subst e;cases a;rw[aa.cX]at c;exact(LA h c:b.arr=b1.arr)
 rw[aa.cX]at a;exact LA h a
def L1{P:Program}{H H':aa}{t:TypeId}{a x:Option AV}{y:AV}(h:nx P H t a x=some (y,H')):xU H H':=by
 unfold nx at h;split at h
 ·split at h
  ·rename_i r' i j q n _ b e;obtain⟨⟨g,l,f⟩,h⟩:=eK.1 h;split at h
   ·split at h
    ·rename_i p m;split at h;·cases h
     rename_i d;obtain⟨k,h⟩:=eK.1 h;simp only[bG]at h;obtain⟨es',c,h⟩:=h;cases h;exact xU.put (by rw[aa.cX];unfold uK;rw[if_neg d];exact e)
    cases h
   simp only[bG]at h;obtain⟨es',c,h⟩:=h;cases h;exact xU.put (R:=[]) e
  cases h
 cases h
def B8{P:Program}{H H':aa}{t t':Option TypeId}{s x y:AV}(h:lx P H t t' s x=some (y,H')) :
 ∃r b z es f,fC s=some r/\H.get r=some b/\b.arr=true/\H'=(⟨r.d,r.t,H.gen r.d r.t,0⟩,some ⟨z,es,true,f⟩) :: H.put r none:=by
 unfold lx at h;split at h;·cases h
 split at h;·cases h
 split at h
 ·split at h;·cases h
  split at h
  ·split at h;·rename_i r' e len b c;obtain⟨⟨_,a,_⟩,h⟩:=eK.1 h;cases h;exact⟨_,b,_,_,_,rfl,c,a,rfl⟩
   cases h
  cases h
 cases h
def LP{H:aa}{r:Ref}{o:Option aQ}(q:Ref):aa.get ((⟨r.d,r.t,H.gen r.d r.t,0⟩,o) :: H.put r none) q=if (⟨r.d,r.t,H.gen r.d r.t,0⟩:Ref)=q then o else if q=r then none else H.get q:=by
 simp only[aa.get,aa.get_put]
def LQ{H:aa}{r:Ref}{o:Option aQ}(a:(H.get r).isSome=true)(d t:Nat):aa.gen ((⟨r.d,r.t,H.gen r.d r.t,0⟩,o) :: H.put r none) d t=if r.d=d/\r.t=t then H.gen d t+1 else H.gen d t:=by
 simp only[aa.gen];rw[aa.jJ _ _ _ a];split;·rename_i h;rw[h.1,h.2]
 rfl
def Ec{H:aa}{r:Ref}{b b':aQ}(k:H.get r=some b):xU H ((⟨r.d,r.t,H.gen r.d r.t,0⟩,some b') :: H.put r none) /\∀q,aa.get ((⟨r.d,r.t,H.gen r.d r.t,0⟩,some b') :: H.put r none) q≠H.get q->Made H ((⟨r.d,r.t,H.gen r.d r.t,0⟩,some b') :: H.put r none) q\/q=r:=by
 have g:(H.get r).isSome=true:=by rw[k];rfl
 have a : ∀q,(⟨r.d,r.t,H.gen r.d r.t,0⟩:Ref)=q->Made H ((⟨r.d,r.t,H.gen r.d r.t,0⟩,some b') :: H.put r none) q:=by
  intro q e;subst e;refine⟨cH _,?_⟩;rw[LQ g,if_pos ⟨rfl,rfl⟩];exact rS _
 refine⟨⟨λd t=>?_,λq c=>?_,λq b1 b' j h f=>?_⟩,λq c=>?_⟩;·rw[LQ g];split<;>omega
 ·rw[LP]at c;split at c;·rename_i e;exact .inr (a q e)
  split at c;·exact absurd rfl c
  exact .inl c
 ·rw[LP]at f;split at f;·rename_i e;subst e;exact absurd h (AH _)
  split at f;·cases f
  rw[j]at f;cases f;rfl
 rw[LP]at c;split at c;·rename_i e;exact .inl (a q e)
 split at c;·rename_i e;exact .inr e
 exact absurd rfl c
def KM{P:Program}{H H':aa}{t t':Option TypeId}{s x y:AV}(h:lx P H t t' s x=some (y,H')):xU H H' /\∃r,fC s=some r /\∀q,H'.get q≠H.get q->Made H H' q\/q=r:=by
 obtain⟨r,b,z,es,f,d,a,c,rfl⟩:=B8 h;exact⟨(Ec a).1,r,d,(Ec a).2⟩
def Je{P:Program}{H H':aa}{r:Ref}(a:r.k=0){t:TypeId}{n:Nat}{c:Option (List (Nat × AV))}{x:AV}(h:qu P H r t n c=some (x,H')) : ∃b,H'=keyed r 0 [b] H:=by
 obtain⟨d,t0,g,k⟩:=r;simp only at a;subst a;unfold qu at h;split at h
 ·split at h;·obtain⟨_,h⟩:=eK.1 h;cases h;exact⟨_,rfl⟩
  cases h
 cases h
def L7{P:Program}{H H':aa}{r:Ref}(a:r.k=0){t t':Option TypeId}{s x y:AV}(h:yf P H r t t' s x=some (y,H')):(∃b,H'=keyed r 0 [b] H) \/∃q b b',fC s=some q/\H.get q=some b/\H'=(⟨q.d,q.t,H.gen q.d q.t,0⟩,some b') :: H.put q none:=by
 obtain⟨d,t0,g,k⟩:=r;simp only at a;subst a;unfold yf at h;split at h
 ·split at h;·cases h
  split at h
  ·split at h;·cases h
   split at h;·obtain⟨_,h⟩:=eK.1 h;cases h;exact .inl ⟨_,rfl⟩
   ·split at h;·rename_i b c;obtain⟨_,h⟩:=eK.1 h;cases h;exact .inr ⟨_,b,_,rfl,c,rfl⟩
    cases h
   cases h
  cases h
 cases h
def Wj{a:Op}{t:Tmp}(h:Nq a=some t):dop a=false:=by
 unfold Nq at h;split at h;all_goals first | rfl | cases h
def Seen(g a:cF)(v:AV):Prop :=∀q,fC v=some q->g q≠none->a q=g q
def wQ{g c:cF}{v:AV}(h:Seen g c v){q:Ref}(d:fC v=some q){b:aQ}(a:g q=some b):c q=some b:=by rw[h q d (by rw[a];simp),a]
def HV{P:Program}{g f:cF}{t:TypeId}{v x:AV}{a:List aQ}(h:uh P g t (some v)=some (x,a))(k:Seen g f v):a=[]/\uh P f t (some v)=some (x,a):=by
 unfold uh at h ⊢;cases v<;>(try (simp at h;done))
 ·rename_i r i j;cases c:dL P t<;>cases e:aA P t<;>rw[c,e]at h<;>(try (simp at h;done));simp only at h ⊢;cases d:g r with
  | none=>rw[d]at h;simp at h
  | some b=>rw[d]at h;rw[wQ k rfl d];exact⟨(rZ h).2,h⟩
 cases c:dL P t<;>cases e:aA P t<;>rw[c,e]at h<;>(try (simp at h;done));exact⟨(rZ h).2,h⟩
def Ao{P:Program}{g m:cF}{t:TypeId}{v x:AV}{j:Option AV}{f:List aQ}(h:da P g t (some v) j=some (x,f))(n:Seen g m v):f=[]/\da P m t (some v) j=some (x,f):=by
 unfold da at h ⊢;cases l:j.bind intOf with
 | none=>rw[l]at h;simp at h
 | some k=>
 rw[l]at h;simp only at h ⊢;cases he:dR P t with
 | some e=>
  rw[he]at h;simp only at h ⊢;cases c:aA P e with
  | none=>rw[c]at h;cases v<;>simp at h
  | some z=>
  rw[c]at h;cases v<;>(try (simp at h;done));·simp only at h ⊢;exact⟨by obtain⟨_,h⟩:=eK.1 h;cases h;rfl,h⟩
  ·rename_i r d len cap;simp only at h ⊢;cases a:g r with
   | none=>rw[a]at h;simp at h
   | some b=>rw[a]at h;rw[wQ n rfl a];exact⟨by obtain⟨_,h⟩:=eK.1 h;cases h;rfl,h⟩
  rename_i r d len cap;simp only at h ⊢;cases a:g r with
  | none=>rw[a]at h;simp at h
  | some b=>rw[a]at h;rw[wQ n rfl a];exact⟨by obtain⟨_,h⟩:=eK.1 h;cases h;rfl,h⟩
 | none=>
  rw[he]at h;simp only at h ⊢;refine⟨?_,h⟩;cases q:lQ P t with
  | none=>rw[q]at h;simp at h
  | some p=>
  rw[q]at h;cases c:aA P p.2 with
  | none=>simp only[c]at h;cases v<;>simp at h
  | some z=>
  simp only[c]at h;cases v<;>(try (simp at h;done));·obtain⟨_,h⟩:=eK.1 h;cases h;rfl
  obtain⟨_,h⟩:=eK.1 h;cases h;rfl
def FD{P:Program}{g n:cF}{t:TypeId}{v x:AV}{j m l:Option (Option Int)}{d:List aQ}(h:iT P g t (some v) j m l=some (x,d))(q:Seen g n v):d=[]/\iT P n t (some v) j m l=some (x,d):=by
 have nil : ∀ {c:Prop} [Decidable c] {o:Option (Nat × Nat × Option Nat)} {f:Nat × Nat × Option Nat->AV × List aQ},(∀p,(f p).2=[])->(if c then o.map f else none)=some (x,d)->d=[]:=by
  intro c _ o f u h;obtain⟨_,h⟩:=eK.1 h;obtain⟨p,_,h⟩:=bG.1 h;have:=u p;rw[h]at this;exact this
 unfold iT at h ⊢;cases j<;>cases m<;>cases l<;>(try (simp at h;done));simp only at h ⊢;cases v<;>(try (simp at h;done))
 ·rename_i y;cases y<;>(try (simp at h;done));·simp only at h ⊢;exact⟨nil (λ_=>rfl) h,h⟩
  split at h;·rename_i e;simp only[dG,AV.v.injEq,Value.slice.injEq]at e;obtain⟨rfl,rfl,rfl⟩:=e;exact⟨nil (λ_=>rfl) h,h⟩
  ·rename_i e;simp at e
  ·rename_i e;simp at e
  ·rename_i e;simp at e
  ·rename_i e;simp at e
  cases h
 ·simp only at h ⊢;exact⟨nil (λ_=>rfl) h,h⟩
 ·rename_i r k len cap;simp only at h ⊢;cases a:g r with
  | none=>rw[a]at h;simp at h
  | some b=>rw[a]at h;rw[wQ q rfl a];exact⟨nil (λ_=>rfl) h,h⟩
 rename_i r k len cap;simp only at h ⊢;cases a:g r with
 | none=>rw[a]at h;simp at h
 | some b=>rw[a]at h;rw[wQ q rfl a];exact⟨nil (λ_=>rfl) h,h⟩
def LD{g c:cF}{v:AV}{p:Nat × List AV}(h:cL g v=some p)(d:Seen g c v):cL c v=some p:=by
 unfold cL at h ⊢;cases v<;>(try (simp at h;done));·rename_i y;cases y<;>first | exact h | (simp at h;done)
 ·exact h
 rename_i r e len cap;simp only at h ⊢;cases a:g r with
 | none=>rw[a]at h;simp at h
 | some b=>rw[a]at h;rw[wQ d rfl a];exact h
def Cf{P:Program}{g m:cF}{r r':Ref}{d f:TypeId}{v x:AV}{k:List aQ}(q:ei P f=false)(h:eE P g r d f (some v)=some (x,k))(t:Seen g m v) :
 k=[]/\eE P m r' d f (some v)=some (x,k):=by
 have other : ∀ {y:AV},y=v->(if ei P d&&isStr P f then
  match cL g y with
  | some (_,es)=>(es.mapM byteOf).map λl=>((AV.v (.string ⟨l.toArray⟩),[]):AV × List aQ)
  | none=>none
  else if d == f&&ei P d then
   match y with
   | .bN r' _ _ _=>(match g r' with
    | some b=>if b.esz=1 then some (y,[]) else none
    | none=>none)
   | _=>none
  else none)=some (x,k)->k=[]/\(if ei P d&&isStr P f then
   match cL m y with
   | some (_,es)=>(es.mapM byteOf).map λl=>((AV.v (.string ⟨l.toArray⟩),[]):AV × List aQ)
   | none=>none
  else if d == f&&ei P d then
   match y with
   | .bN r' _ _ _=>(match m r' with
    | some b=>if b.esz=1 then some (y,[]) else none
    | none=>none)
   | _=>none
  else none)=some (x,k):=by
  intro y e h;split at h
  ·rename_i n;rw[if_pos n];cases he:cL g y with
   | none=>rw[he]at h;simp at h
   | some p=>rw[he]at h;rw[LD he (e ▸ t)];refine⟨?_,h⟩;obtain⟨_,_,h⟩:=bG.1 h;cases h;rfl
  rename_i n;split at h;·rename_i j;simp only[aT,iQl]at j;rw[j.1,q]at j;simp at j
  cases h
 unfold eE at h ⊢;cases v;case v y=>
  cases y;case string s=>
   simp only[q,AK,mJ,iQf]at h ⊢;exact⟨by obtain⟨_,h⟩:=eK.1 h;cases h;rfl,h⟩
  case slice a l c=>
   rcases a with _ | a
   ·rcases l with _ | l
    ·rcases c with _ | c
     ·exact⟨by obtain⟨_,h⟩:=eK.1 h;cases h;rfl,h⟩
     exact⟨(rZ h).2,h⟩
    exact⟨(rZ h).2,h⟩
   exact⟨(rZ h).2,h⟩
  all_goals exact⟨(rZ h).2,h⟩
 all_goals exact other rfl h
def Ez{P:Program}{H H':aa}{d a:Nat}{t:TypeId}{n:Nat}{l:List (Nat × AV)}{x:AV}(h:kU P H ⟨d,a,H.gen d a,0⟩ t n (some l)=some (x,H')):xU H H' /\∀q,H'.get q≠H.get q->Made H H' q\/q∈bX H.get (l.map (·.2)):=by
 simp only[kU,bG]at h;obtain⟨b,K,h⟩:=h;injection h with J u
 subst u;generalize z:bX H.get (l.map (·.2))=R;have f : ∀q,aa.get ((⟨d,a,H.gen d a,0⟩,some b) :: bV H R) q=if (⟨d,a,H.gen d a,0⟩:Ref)=q then some b else uK H.get R q:=by
  intro q;simp only[aa.get,aa.cX]
 have j : ∀k t',aa.gen ((⟨d,a,H.gen d a,0⟩,some b) :: bV H R) k t'=if d=k/\a=t' then H.gen d a+1 else H.gen k t':=by
  intro k t';simp only[aa.gen,aa.ij]
 have c : ∀q,(⟨d,a,H.gen d a,0⟩:Ref)=q->Made H ((⟨d,a,H.gen d a,0⟩,some b) :: bV H R) q:=by
  intro q e;subst e;refine⟨cH _,?_⟩;rw[j,if_pos ⟨rfl,rfl⟩];exact rS _
 refine⟨⟨λk t'=>?_,λq g=>?_,λq b1 b' y v m=>?_⟩,λq g=>?_⟩
 ·rw[j];split;·rename_i e;rw[<-e.1,<-e.2];exact Em _
  exact cH _
 ·rw[f]at g;split at g;·rename_i e;exact .inr (c q e)
  exact .inl (IC g)
 ·rw[f]at m;split at m;·rename_i e;subst e;exact absurd v (AH _)
  exact LA y m
 rw[f]at g;split at g;·rename_i e;exact .inl (c q e)
 unfold uK at g;split at g;·rename_i p;exact .inr p
 exact absurd rfl g
def Dv{P:Program}{g d:cF}{t:TypeId}{v x:AV}{k:Option AV}{ok:Bool}{c:List aQ}(h:fe P g t (some v) k ok=some (x,c))(l:Seen g d v):c=[]/\fe P d t (some v) k ok=some (x,c):=by
 unfold fe at h ⊢;cases v<;>(try (simp at h;done));rename_i r;cases f:Jp P t with
 | none=>rw[f]at h;simp at h
 | some p=>
 obtain⟨n,et⟩:=p;cases j:k.bind im with
 | none=>rw[f,j]at h;simp at h
 | some m=>
 rw[f,j]at h;simp only at h ⊢;cases hm:kE g r with
 | none=>rw[hm]at h;simp at h
 | some ents=>
 have a:kE d r=some ents:=by
  unfold kE at hm ⊢;cases e:g r with
  | none=>rw[e]at hm;simp at hm
  | some b=>rw[e]at hm;rw[wQ l rfl e];exact hm
 rw[a];rw[hm]at h;refine⟨?_,h⟩;simp only at h;split at h
 ·split at h;·obtain⟨_,_,h⟩:=bG.1 h;cases h;rfl
  ·obtain⟨_,_,h⟩:=bG.1 h;cases h;rfl
  cases h
 cases h
def Xc{E:Env}{pc:FuncId->List AV->Option AV}{g k:cF}{tm:List AV}{r:Ref}{o:Oper}(b:blind E o=true){x:AV}{d:List aQ}(h:cr E pc true g tm r o=some (x,d)) :
 cr E pc true k tm r o=some (x,d):=by
 unfold blind at b;replace b:=(uS.1 b).2;split at b;·rename_i a;unfold cr at h ⊢;simp only[a]at h ⊢;exact h
 ·rename_i a;unfold cr at h ⊢;simp only[a]at h ⊢;exact h
 ·rename_i c a;obtain⟨l,e⟩:=uS.1 b;split at e
  ·rename_i f j;have m:c.args.toList=[]:=by simpa using l
   unfold cr at h ⊢;simp only[a,m,j,zI,GK,rR,aC,kW,sZ,bX,GO]at h ⊢;exact h
  cases e
 cases b
def Qe{E:Env}{o:Oper}(h:Qf E o=true):blind E o=true:=by
 unfold Qf at h;unfold blind;obtain⟨c,b⟩:=uS.1 h;rw[c,m9];split at b;·rename_i a;rw[a]
 ·rename_i a;rw[a]
 cases b
def Tk{E:Env}{oi a:Oper}(h:blind E oi=false):pj E oi a=false:=by
 unfold pj;cases b:Qf E oi with
 | false=>rfl
 | true=>rw[Qe b]at h;cases h
def ph{E:Env}{oi a:Oper}(h:cls E oi≠3):pj E oi a=false:=by
 unfold pj Qf;rw[beq_false_of_ne h];rfl
def Tl{E:Env}{oi a:Oper}(h:((Ff a.op).isSome&&a.dst.isSome && !DZ E a)=false):pj E oi a=false:=by
 unfold pj;rw[h,AK]
def Qd{E:Env}{pc:FuncId->List AV->Option AV}{g:cF}{tm:List AV}{r:Ref}{o:Oper}(b:Qf E o=true){x:AV}{c:List aQ}(h:cr E pc true g tm r o=some (x,c)):c≠[]:=by
 unfold Qf at b;replace b:=(uS.1 b).2;split at b
 ·rename_i a;unfold cr at h;simp only[a]at h;unfold xJ at h;split at h
  ·split at h;·cases h;simp
   cases h
  cases h
 ·rename_i a;unfold cr at h;simp only[a]at h;cases h;simp
 cases b
def R4{E:Env}{pc:FuncId->List AV->Option AV}{tc:uE->List AV->aa->cp}{nt dep:Nat}{ops:Array Oper}{o:Oper}{st d:St}{t:Tmp}(g:DZ E o=false)(a:Ff o.op=some t)(v:wanted ops st.tm o=some true)(h:evalOp E pc tc nt dep true ops o st=some d) :
 (∃x j tm',cr E pc true st.hp.get st.tm ⟨dep,o.dst.getD 0,st.hp.gen dep (o.dst.getD 0),0⟩ o=some (x,j)/\cQ nt st.tm o.dst x=some tm'/\d=⟨tm',keyed ⟨dep,o.dst.getD 0,st.hp.gen dep (o.dst.getD 0),0⟩ 0 j st.hp⟩) \/
 ∃c y z x,o.op = .call c/\c.callee = .builtin .append/\c.args.toList.mapM (aC st.tm)=some [y,z]/\lx E.P st.hp c.argTypes[0]? c.argTypes[1]? y z=some (x,d.hp)/\y=dA st.tm t/\cQ nt st.tm o.dst x=some d.tm:=by
 unfold evalOp at h;simp only[zS g,tJ g]at h;rw[v]at h;simp only at h;split at h;·rename_i x j J;simp only[bG]at h;obtain⟨tm',m,rfl⟩:=h;exact .inl ⟨x,j,tm',J,m,rfl⟩
 split at h;·cases h
 split at h
 ·rename_i x H f;simp only[bG]at h;obtain⟨tm',m,rfl⟩:=h;refine .inr ?_;unfold Ff at a;split at a
  ·rename_i c p;split at a
   ·rename_i n;split at a
    ·rename_i t' rest b;cases a;unfold evalW at f;simp only[p,n,b]at f;cases hm:List.mapM (aC st.tm) (Operand.tmp t :: rest) with
     | none=>rw[hm]at f;simp at f
     | some args=>
      rw[hm]at f;have k:=hm;simp only[mH,aC,rR,s7,eJ,ib]at hm;obtain⟨l,K,e⟩:=hm;simp at e;subst e;simp only at f;split at f;·rename_i s y u q;cases q;exact⟨c,_,_,x,p,n,by rw[b];exact k,f,rfl,m⟩
      ·rename_i u q;cases u
      cases f
    cases a
   cases a
  cases a
 cases h
def look_nil{E:Env}{pc:FuncId->List AV->Option AV}{g:cF}{tm:List AV}{r:Ref}{o:Oper}{t:Tmp}(d:Cj E.P o.op=some t){x:AV}{y:List aQ}(h:cr E pc true g tm r o=some (x,y)) :
 y=[] /\∀f r',Seen g f (dA tm t)->cr E pc true f tm r' o=some (x,y):=by
 unfold Cj at d;split at d;·rename_i ty t' a;cases d;unfold cr at h ⊢;simp only[a]at h ⊢;exact⟨(HV h (λ_ _ _=>rfl)).1,λf r' e=>(HV h e).2⟩
 ·rename_i ty t' S a;cases d;unfold cr at h ⊢;simp only[a]at h ⊢;exact⟨(Ao h (λ_ _ _=>rfl)).1,λf r' e=>(Ao h e).2⟩
 ·rename_i ty t' R U T a;cases d;unfold cr at h ⊢;simp only[a,zd,AK,iQs]at h ⊢;exact⟨(FD h (λ_ _ _=>rfl)).1,λf r' e=>(FD h e).2⟩
 ·rename_i O u t' a;split at d;·cases d
  rename_i z;cases d;unfold cr at h ⊢;simp only[a]at h ⊢;have j:ei E.P u=false:=by simpa using z
  exact⟨(Cf (r':=r) j h (λ_ _ _=>rfl)).1,λf r' e=>(Cf j h e).2⟩
 ·rename_i ty t' k ok a;cases d;unfold cr at h ⊢;simp only[a]at h ⊢;exact⟨(Dv h (λ_ _ _=>rfl)).1,λf r' e=>(Dv h e).2⟩
 ·rename_i c a;split at d
  ·rename_i L;split at d
   ·rename_i t' l;cases d;unfold cr at h ⊢;simp only[a,l,L,mH,GK,aC,rR,s7,eJ]at h ⊢;cases K:dA tm t with
    | mp q=>
     rw[K]at h;simp only[cP]at h ⊢;obtain⟨N,h⟩:=O5.1 h;simp only[if_neg N];refine⟨?_,λf r' e=>?_⟩
     ·unfold wT at h;split at h;·cases h;rfl
      cases h
     unfold wT at h ⊢;split at h
     ·rename_i p ents Q m;have v:kE f q=some ents:=by
       unfold kE at m ⊢;cases J:g q with
       | none=>rw[J]at m;simp at m
       | some b=>rw[J]at m;rw[wQ e rfl J];exact m
      simp only[Q,v];exact h
     cases h
    | _=>rw[K]at h;simp only[cP]at h ⊢;refine⟨?_,λf r' e=>h⟩;unfold Jr at h;(repeat' split at h)<;>(try simp_all)<;>(try (obtain⟨_,_,_,h⟩:=h;exact h))<;>(try (obtain⟨n,_,h⟩:=ib.1 h;simp at h;exact h.2))
   cases d
  cases d
 cases d
end
section
section
variable{E:Env}{o:Oper}
def IN(h:cls E o=0):xV E o=false:=by
 unfold cls at h;cases a:xV E o with
 | false=>rfl
 | true=>rw[a]at h;simp only[if_true]at h;(repeat' split at h)<;>omega
def LF(h:cls E o=1) : ∃t,Cj E.P o.op=some t/\ni E o=some t/\il E o=false:=by
 unfold cls at h;split at h
 ·split at h;·cases h
  rename_i f;split at h
  ·rename_i e;obtain⟨t,a⟩:=ik.1 e;refine⟨t,a,?_,?_⟩;·have:storeT o.op=none:=(by simpa using f);simp[ni,this,a]
   unfold il;have:wOp E o.op=false/\Bq o.op=false:=by
    unfold Cj at a;split at a<;>(try (rename_i b;rw[b];exact⟨rfl,rfl⟩))
    ·rename_i c b;split at a;·rename_i d;rw[b];simp[wOp,Bq,d]
     cases a
    cases a
   rw[this.1,this.2];simp
  split at h<;>cases h
 cases h
def RF(h:cls E o=2) : ∃ty t x,o.op = .store ty (.tmp t) x/\ni E o=some t:=by
 unfold cls at h;split at h
 ·split at h
  ·rename_i d;obtain⟨t,a⟩:=ik.1 d;have c:=a;unfold storeT at a;split at a;·rename_i ty t' x b;cases a;exact⟨ty,t,x,b,by simp[ni,c]⟩
   cases a
  (repeat' split at h)<;>cases h
 cases h
def BQ(h:cls E o=3):xV E o=true/\il E o=false:=by
 unfold cls at h;split at h
 ·rename_i a;split at h;·cases h
  split at h;·cases h
  split at h;·cases h
  rename_i b;exact⟨a,by simpa using b⟩
 cases h
def Oh(h:cls E o=4):ni E o=if Bq o.op then bsT o.op else Hq o.op:=by
 unfold cls at h;split at h
 ·split at h;·cases h
  rename_i d;split at h;·cases h
  rename_i c;have a:storeT o.op=none:=by simpa using d
  have b:Cj E.P o.op=none:=(by simpa using c);simp[ni,a,b]
 cases h
end
def MS{E:Env}{o:Oper}(h:qF E o=true) : ∃c g,o.op = .call c/\c.callee = .value (.func g)/\E.mode g=2/\E.gJ o=true/\E.strict o=false:=by
 unfold qF at h;rw[aT,aT]at h;obtain⟨⟨d,f⟩,a⟩:=h;split at a
 ·rename_i c b;split at a;·rename_i g e;exact⟨c,g,b,e,by simpa using a,d,by simpa using f⟩
  cases a
 cases a
def SN{E:Env}{o:Oper}(h:qF E o=true):cls E o=4/\ni E o=none:=by
 obtain⟨c,g,a,b,hm,n,j⟩:=MS h;have d:storeT o.op=none:=by rw[a];rfl
 have f:Cj E.P o.op=none:=by rw[a];simp[Cj,b]
 have p:kM o.op=true:=by rw[a];simp[kM,b]
 have e:il E o=true:=by simp[il,j,a,wOp,b,hm]
 have k:Hq o.op=none:=by rw[a];simp[Hq,Nq,Ff,b]
 have l:Bq o.op=false:=by rw[a];rfl
 refine⟨?_,?_⟩;·have m:xV E o=true:=ig e;simp[cls,d,f,m,e]
 simp[ni,d,f,k,l]
def tF{E:Env}{o:Oper}{t:Tmp}(h:ni E o=some t):qF E o=false:=by
 cases a:qF E o with| false=>rfl| true=>rw[(SN a).2]at h;cases h
def Wi{E:Env}{pc:FuncId->List AV->Option AV}{tc:uE->List AV->aa->cp}{H H':aa}{tm:List AV}{r:Ref}{o:Oper}{t:Tmp}(e:Nq o.op=some t){x:AV}(h:evalW E pc tc H tm r o=some (x,H')) :
 ∃q ents b,fC (dA tm t)=some q/\kE H.get q=some ents/\H'=H.put q (some (ba b)):=by
 have upd : ∀ {ty:TypeId} {m:AV} {k v:Option AV} {y:AV} {H':aa},dQ E.P H ty (some m) k v=some (y,H') ->∃q ents b,fC m=some q/\kE H.get q=some ents/\H'=H.put q (some (ba b)):=by
  intro ty m k v y H' h;unfold dQ at h;split at h
  ·rename_i p et q k' g f c;simp only[dG]at c;subst c;split at h
   ·rename_i l ents j d;split at h
    ·split at h
     ·split at h;·cases h;exact⟨q,ents,_,rfl,d,rfl⟩
      cases h
     ·cases h;exact⟨q,ents,_,rfl,d,rfl⟩
     cases h
    cases h
   cases h
  cases h
 unfold Nq at e;split at e;·rename_i a;cases e;unfold evalW at h;simp only[a,aC]at h;exact upd h
 ·rename_i a;cases e;unfold evalW at h;simp only[a,aC]at h;exact upd h
 ·rename_i ty t' k a;cases e;unfold evalW at h;simp only[a,aC]at h;unfold jl at h;split at h
  ·rename_i p et q k' f c u;split at h
   ·rename_i l ents j d;split at h
    ·split at h
     ·split at h;·simp only[bG]at h;obtain⟨v,_,h⟩:=h;cases h;simp only[dG]at c;exact⟨q,ents,_,by rw[c];rfl,d,rfl⟩
      cases h
     ·simp only[bG]at h;obtain⟨v,_,h⟩:=h;cases h;simp only[dG]at c;exact⟨q,ents,_,by rw[c];rfl,d,rfl⟩
     cases h
    cases h
   cases h
  cases h
 ·rename_i k t' m g a;cases e;unfold evalW at h;simp only[a,aC]at h;unfold fQ at h;split at h
  ·rename_i q J n z f c u;split at h
   ·rename_i ents d;split at h
    ·split at h;·cases h;simp only[dG]at f;exact⟨q,ents,_,by rw[f];rfl,d,rfl⟩
     cases h
    cases h
   cases h
  cases h
 cases e
def S9{g:cF}{r:Ref}{ents:List AV}(h:kE g r=some ents) : ∃b,g r=some b/\b.arr=false:=by
 unfold kE at h;split at h;·rename_i e;exact⟨_,e,rfl⟩
 cases h
def xU.map{H:aa}{r:Ref}{ents a:List AV}(g:kE H.get r=some ents):xU H (H.put r (some (ba a))):=by
 obtain⟨j,c,f⟩:=S9 g;refine⟨λd t=>?_,λq h=>?_,λq b1 b' h k b=>?_⟩;·rw[aa.jJ _ _ _ (by rw[c];rfl)];exact cH _
 ·rw[aa.get_put]at h;split at h;·rename_i e;subst e;exact .inl (by rw[c];simp)
  exact .inl h
 rw[aa.get_put]at b;split at b;·rename_i e;subst e;cases b;rw[c]at h;cases h;rw[f];rfl
 rw[h]at b;cases b;rfl
def Xj{E:Env}{pc:FuncId->List AV->Option AV}{tc:uE->List AV->aa->cp}{H H':aa}{tm:List AV}{r:Ref}{o:Oper}{t:Tmp}(a:Ff o.op=some t){x:AV}(h:evalW E pc tc H tm r o=some (x,H')) :
 ∃t1 k y z,fC y=fC (dA tm t)/\lx E.P H t1 k y z=some (x,H'):=by
 unfold Ff at a;split at a
 ·rename_i c d;split at a
  ·rename_i j;split at a
   ·rename_i t' rest b;cases a;unfold evalW at h;simp only[d,j,b]at h;cases hm:List.mapM (aC tm) (Operand.tmp t :: rest) with
    | none=>rw[hm]at h;simp at h
    | some args=>
     rw[hm]at h;simp only[mH,aC,rR,s7,eJ,ib]at hm;obtain⟨l,a,e⟩:=hm;simp at e;subst e;simp only at h;split at h;·rename_i s y g f;cases f;exact⟨_,_,_,_,rfl,h⟩
     ·rename_i g f;cases g
     cases h
   cases a
  cases a
 cases a
def TL{E:Env}{H H':aa}{tm:List AV}{d g:Nat}{o:Oper}{t:Tmp}(a:Ff o.op=some t){x:AV}(h:yV E H tm ⟨d,g,H.gen d g,0⟩ o=some (x,H')) :
 (∃b,H'=keyed ⟨d,g,H.gen d g,0⟩ 0 [b] H) \/∃q b b',fC (dA tm t)=some q/\H.get q=some b/\H'=(⟨q.d,q.t,H.gen q.d q.t,0⟩,some b') :: H.put q none:=by
 unfold Ff at a;split at a
 ·rename_i c j;split at a
  ·rename_i k;split at a
   ·rename_i t' rest f;cases a;unfold yV at h;simp only[j,f]at h;cases hm:List.mapM (aC tm) (Operand.tmp t :: rest) with
    | none=>rw[hm]at h;cases h
    | some args=>
     rw[hm]at h;simp only[mH,aC,rR,s7,eJ,ib]at hm;obtain⟨l,a,e⟩:=hm;simp at e;subst e;split at h;·rename_i e;cases e;exact L7 rfl h
     cases h
   cases a
  cases a
 cases a
def O8{P:Program}{H H':aa}{t:TypeId}{a x:Option AV}{y:AV}(h:nx P H t a x=some (y,H'))(d k:Nat):H'.gen d k=H.gen d k:=by
 unfold nx at h;split at h
 ·split at h
  ·rename_i r' i j v n _ b f;obtain⟨⟨l,p,g⟩,h⟩:=eK.1 h;split at h
   ·split at h
    ·rename_i u q;split at h;·cases h
     rename_i e;obtain⟨m,h⟩:=eK.1 h;simp only[bG]at h;obtain⟨es',c,h⟩:=h;cases h;rw[aa.jJ _ _ _ (by rw[aa.cX];unfold uK;rw[if_neg e,f];rfl),aa.ij]
    cases h
   simp only[bG]at h;obtain⟨es',c,h⟩:=h;cases h;rw[aa.jJ _ _ _ (by rw[f];rfl)]
  cases h
 cases h
def Mp{P:Program}{M:Mem}{ι:Map}{g:cF}{w:World}(q:gA M ι g w){t:TypeId}{n:Nat}(J:aA P t=some n){r:Ref}{i j:Nat}{x:AV}{u c:Value}(O:VR M ι (.ptr r i j) u)(R:VR M ι x c)
 {b:aQ} (y:g r=some b) (z:x.cells.length=n) (m:x.cells.all AV.one=true) (k:b.gJ=false) (e:b.arr=false) {es':List AV} (h:fP b.es i j x.cells=some es') :
 ∃w',(Instr.storeAt t u c).run P w = .ok () w'/\gA M ι (ma g r { b with es:=es'}) w'/\uN M ι g w M ι (ma g r { b with es:=es'}) w':=by
 cases O with | ptr v d=>
 rename_i l;have p:=q.at v d y;have a:=R.cells;have f:c.cells.size=n:=by have:=a.1;simp at this;omega
 obtain⟨arr,T,fz,Q,S,L,N,U,K⟩:=GZ q y v d k h m (us:=c.cells.toList) (by rw[aQ.map,if_neg (by simp[e])];exact a);refine⟨bO w l.b (.cells (cB arr (i * b.esz+j) c.cells.toList) T fz),?_,U,K⟩;rw[p.esz];exact A5 J f Q S L N
section
variable{E:Env}{pc:FuncId->List AV->Option AV}{tc:uE->List AV->aa->cp}{nt dep:Nat}{ops:Array Oper}{sts:Nat->St}
variable(C:acX E ops)(A : ∀i o,ops[i]?=some o->evalOp E pc tc nt dep true ops o (sts i)=some (sts (i+1)))
abbrev makes(sts:Nat->St)(j:Nat)(q:Ref):Prop:=Made (sts j).hp (sts (j+1)).hp q
abbrev turns(sts:Nat->St)(j:Nat)(q:Ref):Prop:=(sts (j+1)).hp.get q≠(sts j).hp.get q
theorem X6{o:Oper}{st c:St}{t:Tmp}(a:bsT o.op=some t)(h:evalOp E pc tc nt dep true ops o st=some c) :
 c.hp=st.hp\/(∃e,c.hp=keyed ⟨dep,o.dst.getD 0,st.hp.gen dep (o.dst.getD 0),0⟩ 0 e st.hp) \/∃t1 n i x,DZ E o=false/\kU E.P st.hp ⟨dep,o.dst.getD 0,st.hp.gen dep (o.dst.getD 0),0⟩ t1 n (some [(i,dA st.tm t)])=some (x,c.hp):=by
 unfold evalOp at h;split at h;·cases h
 ·simp only[bG]at h;obtain⟨tm',k,rfl⟩:=h;exact .inl rfl
 split at h;·rename_i x e m;simp only[bG]at h;obtain⟨tm',k,rfl⟩:=h;exact .inr (.inl ⟨e,rfl⟩)
 split at h;·cases h
 split at h
 ·rename_i x H d;simp only[bG]at h;obtain⟨tm',k,rfl⟩:=h;unfold bsT at a;split at a
  ·rename_i t1 n ps j;split at a
   ·rename_i i t' f;cases a;cases g:DZ E o with
    | true=>unfold tK yV at d;rw[g]at d;simp only[AI,iQq,j]at d;obtain⟨b,l⟩:=Je rfl d;exact .inr (.inl ⟨[b],l⟩)
    | false=>
    rw[tJ g]at d;unfold evalW at d;simp only[j,f]at d;exact .inr (.inr ⟨t1,n,i,x,rfl,d⟩)
   cases a
  cases a
 cases h
theorem BD{o:Oper}{st c:St}(a:cls E o=0\/cls E o=1)(h:evalOp E pc tc nt dep true ops o st=some c):c.hp=st.hp:=by
 rcases oX h with ⟨_,tm',d,he⟩ | ⟨_,x,f,e,tm',d,he⟩ | b
 ·rw[he]
 ·rw[he];rcases a with a | a
  ·rw[(yJ (IN a) e).1];rfl
  obtain⟨t,d,_,_⟩:=LF a;rw[(look_nil d e).1];rfl
 rcases a with a | a
 ·have:=IN a;rw[ig b]at this;cases this
 obtain⟨t,d,_,hw⟩:=LF a;rw[hw]at b;cases b
theorem HB{o:Oper}{st b:St}{ty:TypeId}{t:Tmp}{e:Operand}(a:o.op = .store ty (.tmp t) e)(h:evalOp E pc tc nt dep true ops o st=some b)(f:wanted ops st.tm o=some true) :
 ∃y,nx E.P st.hp ty (some (dA st.tm t)) (aC st.tm e)=some (y,b.hp)/\cQ nt st.tm o.dst y=some b.tm:=by
 have c:DZ E o=false:=by simp[DZ,dop,a]
 unfold evalOp at h;simp only[zS c,tJ c]at h;rw[f]at h;have j:cr E pc true st.hp.get st.tm ⟨dep,o.dst.getD 0,st.hp.gen dep (o.dst.getD 0),0⟩ o=none:=by unfold cr;simp only[a]
 rw[j]at h;simp only at h;split at h;·cases h
 split at h;·rename_i x H d;simp only[bG]at h;obtain⟨tm',g,rfl⟩:=h;unfold evalW at d;simp only[a]at d;exact⟨x,d,g⟩
 cases h
theorem step_map{o:Oper}{st a:St}{t:Tmp}(d:Nq o.op=some t)(h:evalOp E pc tc nt dep true ops o st=some a) :
 a.hp=st.hp\/(∃e,a.hp=keyed ⟨dep,o.dst.getD 0,st.hp.gen dep (o.dst.getD 0),0⟩ 0 e st.hp) \/∃q ents b,fC (dA st.tm t)=some q/\kE st.hp.get q=some ents/\a.hp=st.hp.put q (some (ba b)):=by
 have c:DZ E o=false:=by unfold DZ;rw[Wj d,AK]
 unfold evalOp at h;simp only[zS c,tJ c]at h;split at h;·cases h
 ·simp only[bG]at h;obtain⟨tm',f,rfl⟩:=h;exact .inl rfl
 split at h;·rename_i x e j;simp only[bG]at h;obtain⟨tm',f,rfl⟩:=h;exact .inr (.inl ⟨e,rfl⟩)
 split at h;·cases h
 split at h;·rename_i x H g;simp only[bG]at h;obtain⟨tm',f,rfl⟩:=h;exact .inr (.inr (Wi d g))
 cases h
theorem R3{o:Oper}{st e:St}(l:qF E o=true)(h:evalOp E pc tc nt dep true ops o st=some e):e.hp=st.hp:=by
 obtain⟨c,g,b,j,hm,k,n⟩:=MS l;have f:DZ E o=false:=by simp[DZ,dop,b,j]
 unfold evalOp at h;simp only[zS f,tJ f]at h;split at h;·cases h
 ·simp only[bG]at h;obtain⟨tm',m,rfl⟩:=h;rfl
 split at h
 ·rename_i x q d;exfalso;unfold cr at d;simp only[b,j]at d;split at d;·cases d
  simp only[zI,aC,kW,hm,if_true,AS]at d;cases d
 split at h;·cases h
 split at h
 ·rename_i x H a;simp only[bG]at h;obtain⟨tm',m,rfl⟩:=h;unfold evalW at a;simp only[b,j]at a;split at a;·cases a
  rw[k]at a;cases hw:nH E pc tc st.hp ⟨dep,o.dst.getD 0,st.hp.gen dep (o.dst.getD 0),0⟩ (aC st.tm (.func g)) _ with
  | none=>rw[hw]at a;simp[qQ]at a
  | some p=>
   obtain⟨y,H'⟩:=p;rw[hw]at a;unfold qQ at a;simp only at a;split at a;·cases a;rfl
   cases a
 cases h
theorem UI{o:Oper}{st a:St}{t:Tmp}(f:Ff o.op=some t)(h:evalOp E pc tc nt dep true ops o st=some a) :
 a.hp=st.hp\/(∃j,a.hp=keyed ⟨dep,o.dst.getD 0,st.hp.gen dep (o.dst.getD 0),0⟩ 0 j st.hp)\/(∃t1 g y z x,fC y=fC (dA st.tm t)/\lx E.P st.hp t1 g y z=some (x,a.hp)) \/∃q b b',fC (dA st.tm t)=some q/\st.hp.get q=some b/\a.hp=(⟨q.d,q.t,st.hp.gen q.d q.t,0⟩,some b') :: st.hp.put q none:=by
 unfold evalOp at h;split at h;·cases h
 ·simp only[bG]at h;obtain⟨tm',l,rfl⟩:=h;exact .inl rfl
 split at h;·rename_i x j J;simp only[bG]at h;obtain⟨tm',l,rfl⟩:=h;exact .inr (.inl ⟨j,rfl⟩)
 split at h;·cases h
 split at h
 ·rename_i x H c;simp only[bG]at h;obtain⟨tm',l,rfl⟩:=h;cases k:DZ E o with
  | false=>rw[tJ k]at c;obtain⟨t1,g,y,z,p,u⟩:=Xj f c;exact .inr (.inr (.inl ⟨t1,g,y,z,x,p,u⟩))
  | true=>
   unfold tK at c;rw[k]at c;simp only[AI,iQq]at c;rcases TL f c with ⟨b,e⟩ | ⟨q,b,b',m,n,v⟩
   ·exact .inr (.inl ⟨[b],e⟩)
   exact .inr (.inr (.inr ⟨q,b,b',m,n,v⟩))
 cases h
theorem Ir{H:aa}{d t:Nat}{c:List aQ}{q:Ref}(h:(keyed ⟨d,t,H.gen d t,0⟩ 0 c H).get q≠H.get q):Made H (keyed ⟨d,t,H.gen d t,0⟩ 0 c H) q:=by
 rw[aa.nF]at h;unfold tN at h;split at h
 ·rename_i j;obtain⟨a,g,b,f⟩:=j;refine⟨?_,?_⟩;·rw[a,g,b];exact cH _
  rw[aa.mS,if_pos ⟨a,g,by intro e;rw[e]at f;simp at f⟩,b];exact rS _
 exact absurd rfl h
include A in
theorem K0{i n:Nat}(a:i<=n)(f:n<=ops.size){t:Tmp}(c : ∀k,jy ops k=some t->k<i):dA (sts n).tm t=dA (sts i).tm t:=by
 induction n with| zero=>rw[GG.1 a]| succ n g=>
  rcases eC n i with h | h
  ·rw[show i=n+1 by omega]
  have b:=kJ (show n<ops.size from f);obtain⟨x,d⟩:=Mr (A n _ b);rw[wO d,if_neg,g h (by omega)];intro e;have:=c n (by simp[jy,b,e]);omega
variable(B:ops.toList.all (IV E (sts ops.size))=true)
include C A B
theorem Hy{i:Nat}{o:Oper}(U:ops[i]?=some o):xU (sts i).hp (sts (i+1)).hp/\(cls E o<3 ->∀d t,(sts (i+1)).hp.gen d t=(sts i).hp.gen d t) /\
 (cls E o≠2 ->∀q,turns sts i q->makes sts i q\/cls E o=4 /\∃t,ni E o=some t/\fC (dA (sts i).tm t)=some q):=by
 have h:=A i o U;have hle:=Fa E o;have Y:cls E o=0\/cls E o=1\/cls E o=2\/cls E o=3\/cls E o=4:=by omega
 have same:(sts (i+1)).hp=(sts i).hp->xU (sts i).hp (sts (i+1)).hp/\(cls E o<3 ->∀d t,(sts (i+1)).hp.gen d t=(sts i).hp.gen d t) /\
  (cls E o≠2 ->∀q,turns sts i q->makes sts i q\/cls E o=4 /\∃t,ni E o=some t/\fC (dA (sts i).tm t)=some q):=by
  intro e;refine⟨by rw[e];exact xU.refl _,λ_ d t=>by rw[e],λ_ q g=>?_⟩;unfold turns at g;rw[e]at g;exact absurd rfl g
 rcases Y with c | c | c | c | c
 ·exact same (BD (.inl c) h)
 ·exact same (BD (.inr c) h)
 ·obtain⟨ty,t,x,hop,hs⟩:=RF c;cases Q:wanted ops (sts i).tm o with
  | none=>unfold evalOp at h;rw[Q]at h;cases h
  | some b=>
   cases b with| false=>unfold evalOp at h;rw[Q]at h;simp only[bG]at h;obtain⟨tm',_,e⟩:=h;exact same (by rw[<-e])| true=>obtain⟨y,hW,_⟩:=HB hop h Q;exact⟨L1 hW,λ_ d t=>O8 hW d t,λhn=>absurd c hn⟩
 ·have X:=(BQ c).2;rcases oX h with ⟨_,tm',p,he⟩ | ⟨_,x,m,g,tm',p,he⟩ | u
  ·exact same (by rw[he])
  ·have e:(sts (i+1)).hp=keyed ⟨dep,o.dst.getD 0,(sts i).hp.gen dep (o.dst.getD 0),0⟩ 0 m (sts i).hp:=(by rw[he]);refine⟨by rw[e];exact xU.keyed _ _ _ _,λl=>by omega,λ_ q g => .inl ?_⟩;unfold turns at g;unfold makes;rw[e]at g ⊢;exact Ir g
  rw[X]at u;cases u
 cases T:qF E o with| true=>exact same (R3 T h)| false=>
 obtain⟨t,p,hst⟩:=C.stay i o U (by omega) (by omega) T;have V : ∀m,(sts (i+1)).hp=keyed ⟨dep,o.dst.getD 0,(sts i).hp.gen dep (o.dst.getD 0),0⟩ 0 m (sts i).hp->xU (sts i).hp (sts (i+1)).hp/\(cls E o<3 ->∀d t,(sts (i+1)).hp.gen d t=(sts i).hp.gen d t) /\
  (cls E o≠2 ->∀q,turns sts i q->makes sts i q\/cls E o=4 /\∃t,ni E o=some t/\fC (dA (sts i).tm t)=some q):=by
  intro m e;refine⟨by rw[e];exact xU.keyed _ _ _ _,λl=>by omega,λ_ q g => .inl ?_⟩;unfold turns at g;unfold makes;rw[e]at g ⊢;exact Ir g
 cases J:Bq o.op with
 | false=>
  have k:Hq o.op=some t:=by rw[Oh c,J]at p;simpa using p
  cases L:Nq o.op with
  | some t'=>
   have e':t'=t:=by unfold Hq at k;rw[L]at k;simpa using k
   subst e';rcases step_map L h with e | ⟨m,e⟩ | ⟨q,ents,ents',g,hm,e⟩
   ·exact same e
   ·exact V m e
   refine⟨by rw[e];exact xU.map hm,λl=>by omega,λ_ q' a => .inr ⟨c,t',p,?_⟩⟩;unfold turns at a;rw[e,aa.get_put]at a;split at a;·rename_i e2;subst e2;exact g
   exact absurd rfl a
  | none=>
  have I:Ff o.op=some t:=by unfold Hq at k;rw[L]at k;exact k
  rcases UI I h with e | ⟨m,e⟩ | ⟨t1,t2,y,z,x,hy,W⟩ | ⟨r,b,b',hr,R,e⟩
  ·exact same e
  ·exact V m e
  rotate_left
  ·refine⟨by rw[e];exact(Ec R).1,λl=>by omega,λ_ q a=>?_⟩;unfold turns at a;unfold makes;rw[e]at a ⊢;rcases(Ec R).2 q a with j | j
   ·exact .inl j
   subst j;exact .inr ⟨c,t,p,hr⟩
  obtain⟨hm,r,hr,g⟩:=KM W;refine⟨hm,λl=>by omega,λ_ q a=>?_⟩;rcases g q a with j | j
  ·exact .inl j
  subst j;exact .inr ⟨c,t,p,by rw[<-hy];exact hr⟩
 | true=>
  have S:bsT o.op=some t:=by rw[Oh c,J]at p;simpa using p
  rcases X6 S h with e | ⟨m,e⟩ | ⟨t1,n,i',x,N,W⟩
  ·exact same e
  ·exact V m e
  obtain⟨hm,g⟩:=Ez W;refine⟨hm,λl=>by omega,λ_ q a=>?_⟩;rcases g q a with j | j
  ·exact .inl j
  refine .inr ⟨c,t,p,?_⟩;have Z:(E.gJ o&&Bq o.op)=true:=by
   have Q:il E o=true:=by
    unfold cls at c;split at c
    ·split at c;·cases c
     split at c;·cases c
     split at c;·assumption
     cases c
    cases c
   unfold il at Q;rcases KF.1 Q with O | O
   ·exfalso;replace O:=(uS.1 O).2;unfold Bq at J;split at J;·rename_i K;rw[K]at O;cases O
    cases J
   have hdo:dop o.op=true:=by
    unfold Bq at J;split at J;·rename_i K;rw[K];rfl
    cases J
   unfold DZ at N;rw[hdo,AI]at N;rwa [N,iQS]at O
  have hi:i<ops.size:=(iO.1 U).1;have f:=gx.1 B o (dJ (i:=i) (by simpa using U));unfold IV at f;rw[Z,S]at f;simp only[zd,Er]at f;rw[K0 A (jd hi) (cH ops.size) hst]at f;simp only[pG,GH,bX,na,GO,rQ]at j;revert f j;generalize dA (sts i).tm t=v;intro f j;cases v with
  | bN r off len cap=>simp only[ah,depth,nc]at j;rw[j];rfl
  | v y=>simp[ah,depth]at j
  | _=>cases f
theorem s8{i n:Nat}(a:i<=n)(b:n<=ops.size)(d t:Nat):(sts i).hp.gen d t<=(sts n).hp.gen d t:=by
 induction n with| zero=>rw[GG.1 a];exact cH _| succ n c=>
  rcases eC n i with h | h
  ·rw[show i=n+1 by omega];exact cH _
  exact xv (c h (by omega)) ((Hy C A B (kJ (show n<ops.size from b))).1.gen d t)
theorem Pf{M:Mem}{ι:Map}{w:World}(F:gA M ι (sts 0).hp.get w)(D:tT ι (sts 0).hp){n:Nat}(f:n<=ops.size) : ∀q,(sts n).hp.get q≠none->q.g<(sts n).hp.gen q.d q.t:=by
 induction n with
 | zero=>
  intro q h;cases b:(sts 0).hp.get q with
  | none=>exact absurd b h
  | some k=>obtain⟨l,e,_⟩:=F.live q k b;exact D q l e
 | succ n j=>
  intro q h;have c:=(Hy C A B (kJ (show n<ops.size from f))).1;rcases c.born q h with a | a
  ·exact C1 (j (by omega) q a) (c.gen _ _)
  exact a.2
theorem afB{M:Mem}{ι:Map}{w:World}(F:gA M ι (sts 0).hp.get w)(D:tT ι (sts 0).hp){i:Nat}{r:Ref}{b:aQ}(c:(sts i).hp.get r=some b){n:Nat}(g:i<=n)(l:n<=ops.size) : ∀b',(sts n).hp.get r=some b'->b'.arr=b.arr:=by
 induction n with| zero=>intro b' h;rw[GG.1 g]at c;rw[c]at h;cases h;rfl| succ n p=>
  intro b' h;rcases eC n i with m | a
  ·rw[show i=n+1 by omega]at c;rw[c]at h;cases h;rfl
  have j:=(Hy C A B (kJ (show n<ops.size from l))).1;rcases j.born r (by rw[h];simp)with e | e
  ·cases f:(sts n).hp.get r with
   | none=>exact absurd f e
   | some k=>rw[j.arr r k b' f (Pf C A B F D (by omega) r e) h];exact p a (by omega) k f
  have u:=Pf C A B F D (show i<=ops.size by omega) r (by rw[c];simp);have q:=s8 C A B a (by omega) r.d r.t;have:=e.1;omega
theorem EW{j b:Nat}{q:Ref}(f:j<ops.size)(c:b<ops.size)(h:makes sts j q)(e:makes sts b q):j=b:=by
 rcases Ew j b with a | rfl | a
 ·have:=s8 C A B (show j+1<=b from a) (jd c) q.d q.t;have:=h.2;have:=e.1;omega
 ·rfl
 have:=s8 C A B (show b+1<=j from a) (jd f) q.d q.t;have:=e.2;have:=h.1;omega
theorem Bg{j:Nat}{q:Ref}{o:Oper}(c:ops[j]?=some o)(h:makes sts j q):3<=cls E o:=by
 rcases eC (cls E o) 3 with a | b
 ·have:=(Hy C A B c).2.1 a q.d q.t;have e:=h.1;have f:=h.2;omega
 exact b
variable{M:Mem}{ι:Map}{w:World}
variable(F:gA M ι (sts 0).hp.get w)(D:tT ι (sts 0).hp)(I:(sC E ops).all (FC (sts ops.size).tm)=true)(G:ops.toList.all (yB (sts ops.size))=true)
include F D G
theorem QP{i:Nat}{o:Oper}(h:ops[i]?=some o)(O:cls E o=2)(U:wanted ops (sts i).tm o=some true) :
 ∃ty t k r l j b x n es',o.op = .store ty (.tmp t) k/\ni E o=some t/\dA (sts i).tm t = .ptr r l j/\(sts i).hp.get r=some b/\b.arr=false/\b.gJ=false/\aC (sts i).tm k=some x/\aA E.P ty=some n /\
  x.cells.length=n/\x.cells.all AV.one=true/\fP b.es l j x.cells=some es'/\(sts (i+1)).hp=(sts i).hp.put r (some { b with es:=es'})/\cQ nt (sts i).tm o.dst AV.undef=some (sts (i+1)).tm:=by
 have N:i<ops.size:=(iO.1 h).1;obtain⟨ty,t,k,f,q⟩:=RF O;obtain⟨y,c,W⟩:=HB f (A i o h) U;obtain⟨t',g,z⟩:=C.stay i o h (by omega) (by omega) (tF q);rw[q]at g;cases g;have e:=K0 A (jd N) (cH ops.size) z;have a:=gx.1 G o (dJ (i:=i) (by simpa using h));unfold yB at a;rw[f]at a;simp only[e]at a;have Q:=c;unfold nx at c;split at c
 ·rename_i r' l j R n J T S;simp only[dG]at J;rw[J]at a;simp only at a;split at c
  ·rename_i b L;obtain⟨⟨p,u,m⟩,c⟩:=eK.1 c;have d:b.arr=false:=by
    split at a;·rename_i b' K;rw[<-afB C A B F D L (jd N) (cH _) b' K];simpa using a
    cases a
   rw[if_neg (by simp[d])]at c;simp only[bG]at c;obtain⟨es',v,c⟩:=c;injection c with V X
   subst V;exact⟨ty,t,k,r',l,j,b,R,n,es',f,q,J,L,d,m,T,S,p,u,v,X.symm,W⟩
  cases c
 cases c
theorem Hw{j:Nat}{o:Oper}(a:ops[j]?=some o){q:Ref}(h:turns sts j q):makes sts j q\/(cls E o=2\/cls E o=4) /\∃t,ni E o=some t/\fC (dA (sts j).tm t)=some q:=by
 by_cases c:cls E o=2
 ·cases hw:wanted ops (sts j).tm o with| none=>have:=A j o a;unfold evalOp at this;rw[hw]at this;cases this| some b=>
   cases b with
   | false=>have:=A j o a;unfold evalOp at this;rw[hw]at this;simp only[bG]at this;obtain⟨tm',_,e⟩:=this;unfold turns at h;rw[<-e]at h;exact absurd rfl h
   | true=>
    obtain⟨ty,t,u,r,v,m,b,x,n,es',g,f,k,p,_,_,_,_,_,_,_,he,_⟩:=QP C A B F D G a c hw;refine .inr ⟨.inl c,t,f,?_⟩;unfold turns at h;rw[he,aa.get_put]at h;split at h;·rename_i e;subst e;rw[k];rfl
    exact absurd rfl h
 rcases(Hy C A B a).2.2 c q h with d | ⟨d,l⟩
 ·exact .inl d
 exact .inr ⟨.inr d,l⟩
omit A F D G C B in
theorem VN{L:Nat->Bool}(c:Closed ops L){i:Nat}{o:Oper}(m:ops[i]?=some o)(k:L i=false)(d : ∀e∈eS o,L e=true){j:Nat}{f:Oper}(b:ops[j]?=some f)
 (h:j<i->((du ops.toList []).getD i 0).testBit j=true) (n:i<j->((du ops.toList []).getD j 0).testBit i=true):(L j=true↔j<i):=by
 constructor
 ·intro g;rcases Ew j i with a | rfl | a
  ·exact a
  ·rw[k]at g;cases g
  have:=wa c j f b (λe l=>c j f g b e l) i (n a);rw[k]at this;cases this
 intro a;exact wa c i o m d j (h a)
omit F D G B in
include I in
theorem VM{L:Nat->Bool}(T:Closed ops L){i:Nat}{o:Oper}(u:ops[i]?=some o)(X:L i=false)(J : ∀e∈eS o,L e=true)(f:cls E o=1\/cls E o=2){t:Tmp}(x:ni E o=some t){q:Ref}(y:fC (dA (sts i).tm t)=some q)
 {j:Nat} {m:Oper} (k:ops[j]?=some m) (g:cls E m=2\/cls E m=4) {t':Tmp} (l:ni E m=some t') (p:fC (dA (sts j).tm t')=some q):(L j=true↔j<i):=by
 have N:i<ops.size:=(iO.1 u).1;have z:j<ops.size:=(iO.1 k).1;obtain⟨t1,R,s1⟩:=C.stay i o u (by omega) (by omega) (tF x);obtain⟨t2,S,s2⟩:=C.stay j m k (by omega) (by omega) (tF l);rw[x]at R;cases R;rw[l]at S;cases S;have U:=K0 A (jd N) (cH ops.size) s1;have V:=K0 A (jd z) (cH ops.size) s2;rw[<-U]at y;rw[<-V]at p;have W : ∀a b,ni E a=some t->ni E b=some t' ->¬(settled E ops a b=true):=by
  intro a b Q O c;unfold settled at c;rw[Q,O]at c;simp only[fp,KG]at c;have d:=gx.1 I;rcases c with c | c
  ·have:=d _ c;unfold FC at this;simp only[y,p]at this;simp at this
  have:=d _ c;unfold FC at this;simp only[y,p]at this;simp at this
 have K : ∀a b,ni E a=some t'->ni E b=some t ->¬(settled E ops a b=true):=by
  intro a b Q O c;unfold settled at c;rw[Q,O]at c;simp only[fp,KG]at c;have d:=gx.1 I;rcases c with c | c
  ·have:=d _ c;unfold FC at this;simp only[y,p]at this;simp at this
  have:=d _ c;unfold FC at this;simp only[y,p]at this;simp at this
 refine VN T u X J k (λn=>?_) (λn=>?_)
 ·by_cases v:DK (cls E o) (cls E m)=true
  ·rcases C.meet i j o m u k n v (tF x) (tF l)with h | h
   ·exact h
   exact absurd h (W o m x l)
  refine C.must i j o m u k n ?_;unfold qV blind;rcases f with f | f<;>rcases g with g | g<;>rw[f,g]at v ⊢ <;> first | rfl | exact absurd rfl v
 by_cases v:DK (cls E m) (cls E o)=true
 ·rcases C.meet j i m o k u n v (tF l) (tF x)with h | h
  ·exact h
  exact absurd h (K m o l x)
 refine C.must j i m o k u n ?_;unfold qV blind;rcases f with f | f<;>rcases g with g | g<;>rw[f,g]at v ⊢ <;> first | rfl | exact absurd rfl v
omit A F D G B in
theorem uo{L:Nat->Bool}(t:Closed ops L){i:Nat}{o:Oper}(m:ops[i]?=some o)(x:L i=false)(n : ∀e∈eS o,L e=true)(u:3<=cls E o)
 {j:Nat} {d:Oper} (g:ops[j]?=some d) (p:blind E o=false\/cls E d≠2) (k:pj E o d=false/\pj E d o=false) (c:cls E d=2\/cls E d=4\/cls E o=4/\3<=cls E d):(L j=true↔j<i):=by
 have y:=Fa E o;have z:=Fa E d;have q:qV E o d=true/\qV E d o=true:=by
  unfold qV;rw[k.1,k.2];have a:cls E o=3\/cls E o=4:=by omega
  rcases c with c | c | ⟨l,c⟩
  ·have v:=p.resolve_right (λh=>h c);rcases a with a | a<;>rw[a,c,v]<;>exact⟨rfl,rfl⟩
  ·rcases a with a | a<;>rw[a,c]<;>simp
  have b:cls E d=3\/cls E d=4:=(by omega);rcases b with b | b<;>rw[l,b]<;>simp
 exact VN t m x n g (λf=>C.must i j o d m g f q.1) (λf=>C.must j i d o g m f q.2)
end
end
section
section
variable{E:Env}{pc:FuncId->List AV->Option AV}{tc:uE->List AV->aa->cp}{nt dep:Nat}{ops:Array Oper}{sts:Nat->St}
variable(C:acX E ops)(A : ∀i o,ops[i]?=some o->evalOp E pc tc nt dep true ops o (sts i)=some (sts (i+1)))
variable{M:Mem}{ι:Map}{w:World}{ds:List Deferred}
structure Xu (E:Env) (ops:Array Oper) (sts:Nat->St) (M:Mem) (ι:Map) (w:World) (L:Nat->Bool) (M1:Mem) (ι1:Map) (g1:cF) (c:Nat) (w1:World):Prop where
 sim:gA M1 ι1 g1 w1
 fwd:uN M ι (sts 0).hp.get w M1 ι1 g1 w1
 le:c<=ops.size
 cut : ∀j o,j<c->ops[j]?=some o->3<=cls E o->L j=true
 hand : ∀q,ι1 q≠none->q.g<(sts c).hp.gen q.d q.t \/∃j,j<ops.size/\L j=true/\c<=j/\makes sts j q
 get : ∀q,∃n,n<=ops.size/\g1 q=(sts n).hp.get q /\∀j,j<ops.size->turns sts j q->(L j=true↔j<n)
structure Xv (E:Env) (nt:Nat) (ops:Array Oper) (sts:Nat->St) (M:Mem) (ι:Map) (w:World) (ds:List Deferred) (L:Nat->Bool) (a1:Act) (w1:World):Prop where
 closed:Closed ops L
 defers:a1.defers=ds
 at_ : ∃M1 ι1 tm1 g1 c,TS ops sts L tm1/\TR M1 ι1 tm1 a1/\a1.tmps.size=nt/\Xu E ops sts M ι w L M1 ι1 g1 c w1
theorem Cd{a b:Nat}{q:Ref}(h:a<=b)(d : ∀j,a<=j->j<b ->¬turns sts j q):(sts b).hp.get q=(sts a).hp.get q:=by
 induction b with| zero=>rw[GG.1 h]| succ b g=>
  rcases eC b a with f | c
  ·rw[show a=b+1 by omega]
  have:=d b c (rS b);unfold turns at this;rw[wI.1 this];exact g c λj e k=>d j e (by omega)
theorem Xu.Ox{L:Nat->Bool}{p:Mem}{f:Map}{k:cF}{c:Nat}{t:World}(h:Xu E ops sts M ι w L p f k c t){q:Ref}{i:Nat}(x:i<=ops.size)(m : ∀j,j<ops.size->turns sts j q->(L j=true↔j<i)):k q=(sts i).hp.get q:=by
 obtain⟨n,v,e,l⟩:=h.get q;rw[e];rcases iQZ n i with hle | hle
 ·exact(Cd hle λj u g d=>by
   have a:=l j (by omega) d;have b:=m j (by omega) d;have:=a.1 (b.2 g);omega).symm
 exact Cd hle λj u g d=>by
  have a:=l j (by omega) d;have b:=m j (by omega) d;have:=b.1 (a.2 g);omega
variable(B:ops.toList.all (IV E (sts ops.size))=true)
include C A B
theorem DL{L:Nat->Bool}{y:Mem}{b:Map}{z:cF}{c:Nat}{x:World}(F:gA M ι (sts 0).hp.get w)(D:tT ι (sts 0).hp)(h:Xu E ops sts M ι w L y b z c x){i:Nat}(u:i<ops.size)(O:L i=false){q:Ref}
 (K:(sts i).hp.get q≠none) (v:b q≠none) {j:Nat} (f:j<ops.size) (g:makes sts j q):(L j=true↔j<i):=by
 constructor
 ·intro a;rcases eC j i with e | n
  ·exact e
  have J:=Pf C A B F D (jd u) q K;have k:=s8 C A B n (jd f) q.d q.t;have:=g.1;omega
 intro e;rcases h.hand q v with J | ⟨N,m,a,_,l⟩
 ·have p:j<c:=by
   rcases eC j c with k | k
   ·exact k
   have:=s8 C A B k (jd f) q.d q.t;have:=g.1;omega
  exact h.cut j _ p (kJ f) (Bg C A B (kJ f) g)
 rw[EW C A B f m g l];exact a
variable(F:gA M ι (sts 0).hp.get w)(D:tT ι (sts 0).hp)(I:(sC E ops).all (FC (sts ops.size).tm)=true)(G:ops.toList.all (yB (sts ops.size))=true)
include F D I G
theorem JS{L:Nat->Bool}(z:Closed ops L){N:Mem}{b:Map}{v:cF}{c:Nat}{K:World}(h:Xu E ops sts M ι w L N b v c K){i:Nat}{o:Oper}(p:ops[i]?=some o)(x:L i=false)(g : ∀e∈eS o,L e=true)
 (k:cls E o=1\/cls E o=2) {t:Tmp} (O:ni E o=some t) {q:Ref} (Q:fC (dA (sts i).tm t)=some q) (a:(sts i).hp.get q≠none) (J:b q≠none) :
 v q=(sts i).hp.get q /\∀j,j<ops.size->turns sts j q->(L j=true↔j<i):=by
 have f:i<ops.size:=(iO.1 p).1;have key : ∀j,j<ops.size->turns sts j q->(L j=true↔j<i):=by
  intro j u y;have d:=kJ u;rcases Hw C A B F D G d y with hm | ⟨m,t',l,n⟩
  ·exact DL C A B F D h f x a J u hm
  exact VM C A I z p x g k O Q d m l n
 exact⟨h.Ox (jd f) key,key⟩
theorem Tc(hpc : ∀f xs y,pc f xs=some y->mu E.P f xs y)(htc : ∀f xs H y H',tc f xs H=some (y,H')->rz E.P f xs H y H'){ro:Option Nat}{Q:Exit->Act->World->Prop}
 {L L':Nat->Bool} {i:Nat} {o:Oper} (ho:ops[i]?=some o) (hi:L i=false) (hed : ∀e∈eS o,L e=true)
 (R : ∀j,L' j=true↔(L j=true\/j=i)) {a1:Act} {w1:World} (hI:Xv E nt ops sts M ι w ds L a1 w1) {K:Act->World->Prop} (hK : ∀a' w',Xv E nt ops sts M ι w ds L' a' w'->K a' w') :
 if Region.wanted o (yielded ops a1.tmps) then o.wpIn (FW ro) 0 E.P a1 w1 K Q else K (a1.put o.dst undef) w1:=by
 obtain⟨hc,hds,M1,Z,tm1,g1,c,hTS,X,hnt,T⟩:=hI;have O:i<ops.size:=(iO.1 ho).1;have hc':Closed ops L':=Closed.next hc ho hed R;have hlook : ∀t∈o.looksAt ops,dA tm1 t=dA (sts i).tm t:=λt ht=>HR C.toRegB A hc ho hi hed hTS ht;have hag:=Bo hlook;have hwd:=zf hlook;have step:=A i o ho;have hle4:=Fa E o;have fin : ∀(u:Value)(x:AV)(S:List AV)(w':World)(M':Mem)(ι':Map),(sts (i+1)).hp=(sts i).hp->cQ nt (sts i).tm o.dst x=some (sts (i+1)).tm->cQ nt tm1 o.dst x=some S ->
  TR M' ι' S (a1.put o.dst u)->(a1.put o.dst u).tmps.size=nt->gA M' ι' g1 w'->uN M1 Z g1 w1 M' ι' g1 w'->(∀q,ι' q≠none->Z q≠none)->Xv E nt ops sts M ι w ds L' (a1.put o.dst u) w':=by
  intro u x S w' M' ι' hsame hx Y htr hn hS' hF' hι;refine⟨hc',(put_defers _ _ _).trans hds,M',ι',S,g1,c,u4 C.toRegB ho R hi hTS hx Y,htr,hn,hS',T.fwd.trans hF',T.le,λj oj hj J hcj=>(R j).2 (.inl (T.cut j oj hj J hcj)),λq hq=>?_,λq=>?_⟩
  ·rcases T.hand q (hι q hq)with h | ⟨j,h1,h2,h3,h4⟩
   ·exact .inl h
   exact .inr ⟨j,h1,(R j).2 (.inl h2),h3,h4⟩
  obtain⟨n,h1,h2,h3⟩:=T.get q;refine⟨n,h1,h2,λj hj hT=>?_⟩;have N:j≠i:=by intro e;subst e;exact hT (by rw[hsame])
  rw[<-h3 j hj hT,R j];simp[N]
 have hkeyfree : ∀k:Nat,Z { (⟨dep+1,0,(sts ops.size).hp.gen (dep+1) 0,0⟩:Ref)with k:=k}=none:=by
  intro k;cases hq:Z { (⟨dep+1,0,(sts ops.size).hp.gen (dep+1) 0,0⟩:Ref)with k:=k} with
  | none=>rfl
  | some l=>
   exfalso;rcases T.hand _ (by rw[hq];simp)with h | ⟨j,h1,_,_,h4⟩
   ·have:=s8 C A B T.le (cH _) (dep+1) 0;simp only at h;omega
   have:=s8 C A B (show j+1<=ops.size from h1) (cH _) (dep+1) 0;have:=h4.2;simp only at this;omega
 have quiet : ∀ {x:AV} {tm':List AV},(sts (i+1)).hp=(sts i).hp->cQ nt (sts i).tm o.dst x=some (sts (i+1)).tm ->
  cr E pc true g1 tm1 ⟨dep+1,0,(sts ops.size).hp.gen (dep+1) 0,0⟩ o=some (x,[])->o.wpIn (FW ro) 0 E.P a1 w1 K Q:=by
  intro x tm' hsame hx hq;obtain⟨S,Y⟩:=lR (tm1:=tm1) hx;refine yO (E:=E) (o:=o) T.sim X rfl hkeyfree hpc (λh=>by cases h) hq ro K Q λu w' ⟨M',ι',h1,h2,h3,h4⟩=>hK _ _ ?_;rw[nP]at h2 h3;obtain⟨h5,h6⟩:=(X.mono h3.mem h3.map).put hnt Y h1;refine fin u x S w' M' ι' hsame hx Y h5 h6 h2 h3 λq hq hn=>hq (h4 q hn (λk hk=>by simp at hk))
 have hno:wanted ops (sts i).tm o=some false->if Region.wanted o (yielded ops a1.tmps) then o.wpIn (FW ro) 0 E.P a1 w1 K Q else K (a1.put o.dst undef) w1:=by
  intro hw;have hw1:=hw;rw[<-hwd]at hw1;rw[ke X hw1];simp only[mJ,iQf];unfold evalOp at step;rw[hw]at step;simp only[bG]at step;obtain⟨tm',ht,he⟩:=step;have hx:cQ nt (sts i).tm o.dst AV.undef=some (sts (i+1)).tm:=by rw[<-he];exact ht
  obtain⟨S,Y⟩:=lR (tm1:=tm1) hx;obtain⟨h1,h2⟩:=X.put hnt Y (u:=undef) (.v rfl);exact hK _ _ (fin undef AV.undef S w1 M1 Z (by rw[<-he]) hx Y h1 h2 T.sim uN.refl λ_ h=>h)
 have maker : ∀ {d:Nat} {x:AV} {bs:List aQ},3<=cls E o->(sts (i+1)).hp=keyed ⟨dep,d,(sts i).hp.gen dep d,0⟩ 0 bs (sts i).hp->cQ nt (sts i).tm o.dst x=some (sts (i+1)).tm ->
  cr E pc true g1 tm1 ⟨dep,d,(sts i).hp.gen dep d,0⟩ o=some (x,bs)->(∀k,Z { (⟨dep,d,(sts i).hp.gen dep d,0⟩:Ref)with k:=k}=none)->o.wpIn (FW ro) 0 E.P a1 w1 K Q:=by
  intro d x bs hcl hhp hx hq' hfree;obtain⟨S,Y⟩:=lR (tm1:=tm1) hx;refine yO (E:=E) (o:=o) T.sim X rfl hfree hpc (λh=>by cases h) hq' ro K Q λu w' ⟨M',ι',h1,h2,h3,h4⟩=>hK _ _ ?_;obtain⟨h5,h6⟩:=(X.mono h3.mem h3.map).put hnt Y h1;refine⟨hc',(put_defers _ _ _).trans hds,M',ι',S,tN g1 ⟨dep,d,(sts i).hp.gen dep d,0⟩ bs,c,u4 C.toRegB ho R hi hTS hx Y,h5,h6,h2,T.fwd.trans h3,T.le,λj oj hj J hcj=>(R j).2 (.inl (T.cut j oj hj J hcj)),λq hq=>?_,λq=>?_⟩
  ·by_cases hq1:Z q=none
   ·by_cases hk : ∃k,k<bs.length/\q = { (⟨dep,d,(sts i).hp.gen dep d,0⟩:Ref)with k:=k}
    ·obtain⟨k,hk,e⟩:=hk;refine .inr ⟨i,O,(R i).2 (.inr rfl),?_,?_⟩
     ·rcases eC i c with V | V
      ·have:=T.cut i o V ho (by omega);rw[hi]at this;cases this
      exact V
     subst e;refine⟨cH _,?_⟩;simp only;rw[hhp,aa.mS,if_pos ⟨rfl,rfl,by intro e;rw[e]at hk;simp at hk⟩];exact rS _
    exact absurd (h4 q hq1 λk hk' e=>hk ⟨k,hk',e⟩) hq
   rcases T.hand q hq1 with h | ⟨j,g1',g2,g3,g4⟩
   ·exact .inl h
   exact .inr ⟨j,g1',(R j).2 (.inl g2),g3,g4⟩
  by_cases hk:q.d=dep/\q.t=d/\q.g=(sts i).hp.gen dep d/\q.k<bs.length
  ·have hmk:makes sts i q:=(by obtain⟨k1,k2,k3,k4⟩:=hk;refine⟨by rw[k1,k2,k3];exact cH _,?_⟩;rw[hhp,aa.mS,if_pos ⟨k1,k2,by intro e;rw[e]at k4;simp at k4⟩,k3];exact rS _);refine⟨i+1,O,?_,λj hj hT=>?_⟩;·rw[hhp,aa.nF];unfold tN;rw[if_pos hk,if_pos hk]
   rw[R j];by_cases N:j=i;·subst N;simp
   have J:=kJ hj;have hturn:turns sts i q:=(by obtain⟨k1,k2,k3,k4⟩:=hk;intro e;have h5:(sts i).hp.get q≠none:=(by rw[<-e,hhp,aa.nF];unfold tN;rw[if_pos ⟨k1,k2,k3,k4⟩,dy k4];simp);have:=Pf C A B F D (jd O) q h5;rw[k1,k2,k3]at this;exact absurd this (AH _));have hnot : ¬j<i:=by
    intro hji';obtain⟨k1,k2,k3,k4⟩:=hk;have hlive : ∀m,m<=i->(sts m).hp.get q≠none->False:=by
     intro m hm W;have h6:=Pf C A B F D (xv hm (jd O)) q W;have h7:=s8 C A B hm (jd O) q.d q.t;rw[k1,k2]at h6 h7;rw[k3]at h6;omega
    by_cases h8:(sts j).hp.get q=none;·exact hlive (j+1) hji' (λh9=>hT (by rw[h8,h9]))
    exact hlive j (jd hji') h8
   have:(L j=true↔j<i):=by
    obtain⟨n',k1,k2,k3⟩:=T.get q;have h9:=k3 i O hturn;rw[hi]at h9;have h10:=k3 j hj hT;rw[h10];constructor
    ·intro h11;have : ¬i<n':=λh=>by simpa using h9.2 h
     omega
    intro h11;exact absurd h11 hnot
   rw[this];constructor
   ·rintro(h | h);·omega
    exact absurd h N
   intro h;left;omega
  obtain⟨n',k1,k2,k3⟩:=T.get q;refine⟨n',k1,?_,λj hj hT=>?_⟩;·unfold tN;rw[if_neg hk];exact k2
  have N:j≠i:=(by intro e;subst e;refine hT ?_;rw[hhp,aa.nF];unfold tN;rw[if_neg hk]);rw[<-k3 j hj hT,R j];simp[N]
 cases hwt:wanted ops (sts i).tm o with| none=>unfold evalOp at step;rw[hwt]at step;cases step| some b=>
 cases b with| false=>exact hno hwt| true=>
 have hw1:=hwt;rw[<-hwd]at hw1;have hcs:cls E o=0\/cls E o=1\/cls E o=2\/cls E o=3\/cls E o=4:=by omega
 rcases hcs with hcl | hcl | hcl | hcl | hcl
 ·rw[ke X hw1];simp only[if_true];have hh:=IN hcl;rcases oX step with ⟨hw,_,_,_⟩ | ⟨hw,x,bs,hq,tm',ht,he⟩ | hwk
  ·rw[hwt]at hw;cases hw
  ·obtain⟨hbs,hall⟩:=yJ hh hq;subst hbs;exact quiet (tm':=tm') (BD (.inl hcl) step) (by rw[he];exact ht) (by rw[uA hag];exact hall _ _)
  rw[ig hwk]at hh;cases hh
 ·rw[ke X hw1];simp only[if_true];obtain⟨t,U,hst,hwk⟩:=LF hcl;rcases oX step with ⟨hw,_,_,_⟩ | ⟨hw,x,bs,hq,tm',ht,he⟩ | hwk'
  ·rw[hwt]at hw;cases hw
  ·obtain⟨hbs,hall⟩:=look_nil U hq;subst hbs;refine quiet (tm':=tm') (BD (.inr hcl) step) (by rw[he];exact ht) ?_;rw[uA hag];refine hall g1 _ λq hrq W=>?_;refine(JS C A B F D I G hc T ho hi hed (.inl hcl) hst hrq W ?_).1;have ht1:dA tm1 t=dA (sts i).tm t:=by
    refine hlook t ?_;unfold Oper.looksAt;refine Aj _ (List.mem_filterMap.2 ⟨.tmp t,?_,rfl⟩);unfold Cj at U;split at U;·rename_i hop;cases U;rw[hop];simp[Op.operands]
    ·rename_i hop;cases U;rw[hop];simp[Op.operands]
    ·rename_i hop;cases U;rw[hop];simp[Op.operands]
    ·rename_i hop;split at U;·cases U
     cases U;rw[hop];simp[Op.operands]
    ·rename_i hop;cases U;rw[hop];simp[Op.operands]
    ·rename_i c hop;split at U
     ·split at U
      ·rename_i hargs;cases U;rw[hop];have:(Operand.tmp t)∈c.args:=by rw[<-Array.mem_toList_iff,hargs];simp
       simp only[Op.operands,Call.operands];simp[this]
      cases U
     cases U
    cases U
   have hv:=X.at_ t;rw[ht1]at hv;revert hrq hv;generalize dA (sts i).tm t=v;generalize a1.tmps.getD t undef=u;intro hrq hv;cases hv with
   | ptr hr hzl=>cases hrq;rw[hr];simp
   | bN hr=>cases hrq;rw[hr];simp
   | dsl hr=>cases hrq;rw[hr];simp
   | mp hr=>cases hrq;rw[hr];simp
   | ch hr=>cases hrq;rw[hr];simp
   | _=>cases hrq
  rw[hwk]at hwk';cases hwk'
 ·rw[ke X hw1];simp only[if_true];obtain⟨ty,t,xo,r,i',j',b,x,n,es',hop,hs,hta,hb,harr,hfr,hxo,hn,hxn,hx1,hes,he,hx⟩:=QP C A B F D G ho hcl hwt;have hmem : ∀y,y = .tmp t\/y=xo->aC tm1 y=aC (sts i).tm y:=(by intro y hy;refine hag y ?_;rw[hop];rcases hy with rfl | rfl<;>simp[Op.operands]);have hpv:=aL X (x := .tmp t) (y := .ptr r i' j') (by rw[hmem _ (.inl rfl)];simp only[aC,hta]);have hxv:=aL X (x:=xo) (y:=x) (by rw[hmem _ (.inr rfl)];exact hxo);have hhand:Z r≠none:=(by revert hpv;generalize a1.eval (.tmp t)=u;intro hpv;cases hpv with | ptr hr hzl=>rw[hr];simp);obtain⟨hg,hord⟩:=JS C A B F D I G hc T ho hi hed (.inr hcl) hs (q:=r) (by rw[hta];rfl) (by rw[hb];simp) hhand;rw[hb]at hg;obtain⟨w',hr,hS',hF'⟩:=Mp (P:=E.P) T.sim hn hpv hxv hg hxn hx1 hfr harr hes;obtain⟨S,Y⟩:=lR (tm1:=tm1) hx;have hok:eB E.P o a1 w1 λu w2=>u=undef/\w2=w':=eB.Gk (by simp[execOp,hop,hr]) ⟨rfl,rfl⟩;refine hok ro K Q λu w2 ⟨e1,e2⟩=>hK _ _ ?_;subst e1;subst e2;obtain⟨h5,h6⟩:=(X.mono hF'.mem hF'.map).put hnt Y (u:=undef) (.v rfl);refine⟨hc',(put_defers _ _ _).trans hds,M1,Z,S,ma g1 r { b with es:=es'},c,u4 C.toRegB ho R hi hTS hx Y,h5,h6,hS',T.fwd.trans hF',T.le,λj oj hj J hcj=>(R j).2 (.inl (T.cut j oj hj J hcj)),λq hq=>?_,λq=>?_⟩
  ·rcases T.hand q hq with h | ⟨j,h1,h2,h3,h4⟩
   ·exact .inl h
   exact .inr ⟨j,h1,(R j).2 (.inl h2),h3,h4⟩
  by_cases hqr:q=r
  ·subst hqr;refine⟨i+1,O,?_,λj hj hT=>?_⟩;·rw[he,aa.get_put,if_pos rfl];unfold ma;rw[if_pos rfl]
   rw[R j];by_cases N:j=i;·subst N;simp
   rw[hord j hj hT];constructor
   ·rintro(h | h);·omega
    exact absurd h N
   intro h;left;omega
  obtain⟨n',h1,h2,h3⟩:=T.get q;refine⟨n',h1,?_,λj hj hT=>?_⟩;·unfold ma;rw[if_neg hqr];exact h2
  have N:j≠i:=(by intro e;subst e;refine hT ?_;rw[he,aa.get_put,if_neg hqr]);rw[<-h3 j hj hT,R j];simp[N]
 ·rw[ke X hw1];simp only[if_true];obtain⟨hh,hwk⟩:=BQ hcl;rcases oX step with ⟨hw,_,_,_⟩ | ⟨hw,x,bs,hq,tm',ht,he⟩ | hwk'
  ·rw[hwt]at hw;cases hw
  ·obtain⟨d,hd⟩:=ik.1 (C.made i o ho hcl);rw[hd,cI]at hq he;have hx:cQ nt (sts i).tm o.dst x=some (sts (i+1)).tm:=by rw[he];exact ht
   obtain⟨S,Y⟩:=lR (tm1:=tm1) hx;have hhp:(sts (i+1)).hp=keyed ⟨dep,d,(sts i).hp.gen dep d,0⟩ 0 bs (sts i).hp:=by rw[he]
   have hloc:blind E o=false->Ej Z (sts i).hp.get g1:=by
    intro hbl q b hg W;rw[<-hg];refine T.Ox (jd O) λj hj hT=>?_;have J:=kJ hj;rcases Hw C A B F D G J hT with hm | ⟨hcj,_⟩
    ·exact DL C A B F D T O hi (by rw[hg];simp) W hj hm
    exact uo C hc ho hi hed (by omega) J (.inl hbl) ⟨Tk hbl,ph (by omega)⟩ (by omega)
   rw[<-uA hag]at hq;have hq':cr E pc true g1 tm1 ⟨dep,d,(sts i).hp.gen dep d,0⟩ o=some (x,bs):=by
    cases hbl:blind E o with| true=>exact Xc hbl hq| false=>exact E6 T.sim (hloc hbl) X hq
   have hfree : ∀k,Z { (⟨dep,d,(sts i).hp.gen dep d,0⟩:Ref)with k:=k}=none:=by
    intro k;cases hqk:Z { (⟨dep,d,(sts i).hp.gen dep d,0⟩:Ref)with k:=k} with
    | none=>rfl
    | some l=>
     exfalso;rcases T.hand _ (by rw[hqk];simp)with h | ⟨j,h1,h2,h3,h4⟩
     ·simp only at h;rcases eC i c with V | V
      ·have:=T.cut i o V ho (by omega);rw[hi]at this;cases this
      have:=s8 C A B V (jd O) dep d;omega
     have J:=kJ h1;have h5:=h4.1;have h6:=h4.2;simp only at h5 h6;rcases Ew j i with N | N | N
     ·have:=s8 C A B (show j+1<=i from N) (jd O) dep d;omega
     ·subst N;rw[hi]at h2;cases h2
     have hcj:=Bg C A B J h4;have hc4:cls E ops[j]=3\/cls E ops[j]=4:=by have:=Fa E ops[j];omega
     rcases hc4 with hc3 | hc4
     ·obtain⟨dj,hdj⟩:=ik.1 (C.made j _ J hc3);have hstepj:=A j _ J;have W:d≠dj:=(by intro e;have:=C.distinct i j o ops[j] d ho J hd (by rw[hdj,e]);omega);rcases oX hstepj with ⟨_,_,_,he2⟩ | ⟨_,_,bs2,_,_,_,he2⟩ | hwk2
      ·rw[he2]at h6;dsimp only at h6;omega
      ·rw[he2]at h6;simp only[hdj,cI]at h6;rw[aa.mS,if_neg (by intro hcc;exact W hcc.2.1)]at h6;omega
      rw[(BQ hc3).2]at hwk2;cases hwk2
     cases hha:pj E o ops[j] with
     | true=>
      have W:=Qd (E:=E) (uS.1 hha).1 hq;have hmk:makes sts i { (⟨dep,d,(sts i).hp.gen dep d,0⟩:Ref)with k:=k}:=⟨cH _,by
       simp only;rw[hhp,aa.mS,if_pos ⟨rfl,rfl,W⟩];exact rS _⟩
      have:=EW C A B h1 O h4 hmk;omega
     | false=>have:=(uo C hc ho hi hed (by omega) J (.inr (by omega)) ⟨hha,ph (by omega)⟩ (.inr (.inl hc4))).1 h2;omega
   exact maker (by omega) hhp hx hq' hfree
  rw[hwk]at hwk';cases hwk'
 have hb4:blind E o=false:=by unfold blind;rw[hcl];rfl
 cases hat:((Ff o.op).isSome&&o.dst.isSome && !DZ E o) with
 | true=>
  rw[ke X hw1];simp only[if_true];obtain⟨hat0,hnd⟩:=uS.1 hat;replace hnd:DZ E o=false:=by simpa using hnd
  obtain⟨hat1,hat2⟩:=uS.1 hat0;obtain⟨t,ht⟩:=ik.1 hat1;obtain⟨d,hd⟩:=ik.1 hat2;have hloc:Ej Z (sts i).hp.get g1:=by
   intro q b hg W;rw[<-hg];refine T.Ox (jd O) λj hj hT=>?_;have J:=kJ hj;rcases Hw C A B F D G J hT with hm | ⟨hcj,_⟩
   ·exact DL C A B F D T O hi (by rw[hg];simp) W hj hm
   exact uo C hc ho hi hed (by omega) J (.inl hb4) ⟨ph (by omega),ph (by omega)⟩ (by omega)
  rcases R4 hnd ht hwt step with ⟨x,bs,tm',hq,hx,he⟩ | ⟨c',y,z,x,hop,hcal,hargs,hA,hy,hx⟩
  ·rw[hd,cI]at hq he;have hx2:cQ nt (sts i).tm o.dst x=some (sts (i+1)).tm:=by rw[he];exact hx
   have hhp:(sts (i+1)).hp=keyed ⟨dep,d,(sts i).hp.gen dep d,0⟩ 0 bs (sts i).hp:=(by rw[he]);rw[<-uA hag]at hq;refine maker (by omega) hhp hx2 (E6 T.sim hloc X hq) λk=>?_;cases hqk:Z { (⟨dep,d,(sts i).hp.gen dep d,0⟩:Ref)with k:=k} with
   | none=>rfl
   | some l=>
    exfalso;rcases T.hand _ (by rw[hqk];simp)with h | ⟨j,h1,h2,h3,h4⟩
    ·simp only at h;rcases eC i c with V | V
     ·have:=T.cut i o V ho (by omega);rw[hi]at this;cases this
     have:=s8 C A B V (jd O) dep d;omega
    have J:=kJ h1;have h5:=h4.1;have h6:=h4.2;simp only at h5 h6;rcases Ew j i with N | N | N
    ·have:=s8 C A B (show j+1<=i from N) (jd O) dep d;omega
    ·subst N;rw[hi]at h2;cases h2
    have hcj:=Bg C A B J h4;have hc4:cls E ops[j]=3\/cls E ops[j]=4:=by have:=Fa E ops[j];omega
    rcases hc4 with hc3 | hc4
    ·obtain⟨dj,hdj⟩:=ik.1 (C.made j _ J hc3);have hstepj:=A j _ J;have W:d≠dj:=(by intro e;have:=C.distinct i j o ops[j] d ho J hd (by rw[hdj,e]);omega);rcases oX hstepj with ⟨_,_,_,he2⟩ | ⟨_,_,bs2,_,_,_,he2⟩ | hwk2
     ·rw[he2]at h6;dsimp only at h6;omega
     ·rw[he2]at h6;simp only[hdj,cI]at h6;rw[aa.mS,if_neg (by intro hcc;exact W hcc.2.1)]at h6;omega
     rw[(BQ hc3).2]at hwk2;cases hwk2
    have:=(uo C hc ho hi hed (by omega) J (.inr (by omega)) ⟨ph (by omega),ph (by omega)⟩ (.inr (.inl hc4))).1 h2;omega
  have hmapM:c'.args.toList.mapM (aC tm1)=some [y,z]:=by
   rw[<-hargs];refine mapM_congr λa ha=>hag a ?_;rw[hop];have:a∈c'.args:=by simpa using ha
   simp[Op.operands,Call.operands,this]
  have hvs:=mU X hmapM;obtain⟨u,v,hu1⟩:=zO hvs.1.symm;rw[hu1]at hvs;have vy:=hvs.2 0 y u rfl rfl;have vz:=hvs.2 1 z v rfl rfl;have hnew0 : ∀r',fC y=some r'->(sts i).hp.get r'≠none->makes sts i ⟨r'.d,r'.t,(sts i).hp.gen r'.d r'.t,0⟩:=(by intro r' hr' W;obtain⟨r2,b2,z2,es2,f2,e1,e2,e3,e4⟩:=B8 hA;rw[hr']at e1;cases e1;refine⟨cH _,?_⟩;simp only;rw[e4,LQ (by rw[e2];rfl),if_pos ⟨rfl,rfl⟩];exact rS _);have hrefs : ∀r',fC y=some r'->Z r'≠none:=by
   intro r' hr';revert vy hr';generalize y=v;intro vy hr';cases vy with
   | ptr hr hzl=>cases hr';rw[hr];simp
   | bN hr=>cases hr';rw[hr];simp
   | dsl hr=>cases hr';rw[hr];simp
   | mp hr=>cases hr';rw[hr];simp
   | ch hr=>cases hr';rw[hr];simp
   | _=>cases hr'
  obtain⟨r',b,k',e1,e2,hqr,e3,u',w',ι',hr',hv',hS',hF',hι'⟩:=L6 (P:=E.P) (ty:=o.type) (H:=(sts i).hp) T.sim vy vz (λr' hr' W=>by
   cases hb:(sts i).hp.get r' with| none=>exact absurd hb W| some b=>exact hloc r' b hb (hrefs r' hr')) (λe p hp=>J7 hloc vz hp) (λr' hr' W=>by
   cases hqk:Z ⟨r'.d,r'.t,(sts i).hp.gen r'.d r'.t,0⟩ with| none=>rfl| some l=>
    exfalso;rcases T.hand _ (by rw[hqk];simp)with h | ⟨j,h1,h2,h3,h4⟩
    ·simp only at h;rcases eC i c with V | V
     ·have:=T.cut i o V ho (by omega);rw[hi]at this;cases this
     have:=s8 C A B V (jd O) r'.d r'.t;omega
    have:=EW C A B h1 O h4 (hnew0 r' hr' W);subst this;rw[hi]at h2;cases h2) hA
  have hmk:=hnew0 r' e1 (by rw[e2];simp);obtain⟨S,Y⟩:=lR (tm1:=tm1) hx;have hok:eB E.P o a1 w1 λu2 w2=>u2=u'/\w2=w':=(by refine eB.of_run ?_ ⟨rfl,rfl⟩;have hsame:c'.args.map a1.eval = #[u,v]:=(by apply Kz.1;rw[Array.toList_map,hu1]);simp only[execOp,hop,resolve,hcal,invoke,iQe,iQh,iQd,hsame];show(do pure (Next.value (<-Builtin.append_ c'.argTypes o.type #[u,v])):Sem Next).run E.P w1=_;exact HK hr');refine hok ro K Q λu2 w2 ⟨f1,f2⟩=>hK _ _ ?_;subst f1;subst f2;obtain⟨h5,h6⟩:=(X.mono hF'.mem hF'.map).put hnt Y hv';refine⟨hc',(put_defers _ _ _).trans hds,M1,ι',S,_,c,u4 C.toRegB ho R hi hTS hx Y,h5,h6,hS',T.fwd.trans hF',T.le,λj oj hj J hcj=>(R j).2 (.inl (T.cut j oj hj J hcj)),λq hq=>?_,λq=>?_⟩
  ·by_cases hqq:q=⟨r'.d,r'.t,(sts i).hp.gen r'.d r'.t,0⟩
   ·refine .inr ⟨i,O,(R i).2 (.inr rfl),?_,by rw[hqq];exact hmk⟩;rcases eC i c with V | V
    ·have:=T.cut i o V ho (by omega);rw[hi]at this;cases this
    exact V
   by_cases hq1:Z q=none;·exact absurd (hι' q hq1 hqq) hq
   rcases T.hand q hq1 with h | ⟨j,g1',g2,g3,g4⟩
   ·exact .inl h
   exact .inr ⟨j,g1',(R j).2 (.inl g2),g3,g4⟩
  have hat3:(sts (i+1)).hp.get q=ma (tn (sts i).hp.get r') ⟨r'.d,r'.t,(sts i).hp.gen r'.d r'.t,0⟩ k' q:=(by rw[e3,get_append _ _ _ _ hqr]);by_cases hqq:q=⟨r'.d,r'.t,(sts i).hp.gen r'.d r'.t,0⟩
  ·refine⟨i+1,O,by rw[hat3];unfold ma;rw[if_pos hqq,if_pos hqq],λj hj hT=>?_⟩;rw[R j];by_cases N:j=i;·subst N;simp
   have hturn:turns sts i q:=by
    intro e;have h5:(sts i).hp.get q≠none:=by
     rw[<-e,hat3];unfold ma;rw[if_pos hqq];simp
    have:=Pf C A B F D (jd O) q h5;rw[hqq]at this;exact absurd this (AH _)
   have hnot : ¬j<i:=by
    intro hji';have hlive : ∀m,m<=i->(sts m).hp.get q≠none->False:=by
     intro m hm W;have h6:=Pf C A B F D (xv hm (jd O)) q W;have h7:=s8 C A B hm (jd O) q.d q.t;rw[hqq]at h6 h7;simp only at h6 h7;omega
    by_cases h8:(sts j).hp.get q=none;·exact hlive (j+1) hji' (λh9=>hT (by rw[h8,h9]))
    exact hlive j (jd hji') h8
   have:(L j=true↔j<i):=by
    obtain⟨n',k1,k2,k3⟩:=T.get q;have h9:=k3 i O hturn;rw[hi]at h9;have h10:=k3 j hj hT;rw[h10];constructor
    ·intro h11;have : ¬i<n':=λh=>by simpa using h9.2 h
     omega
    intro h11;exact absurd h11 hnot
   rw[this];constructor
   ·rintro(h | h);·omega
    exact absurd h N
   intro h;left;omega
  by_cases hqr2:q=r'
  ·refine⟨i+1,O,by rw[hat3];unfold ma tn;rw[if_neg hqq,if_neg hqq,if_pos hqr2,if_pos hqr2],λj hj hT=>?_⟩;rw[R j];by_cases N:j=i;·subst N;simp
   have J:=kJ hj;have:(L j=true↔j<i):=by
    rcases Hw C A B F D G J hT with hm | ⟨hcj,_⟩
    ·exact DL C A B F D T O hi (by rw[hqr2,e2];simp) (by rw[hqr2];exact hrefs r' e1) hj hm
    exact uo C hc ho hi hed (by omega) J (.inl hb4) ⟨ph (by omega),ph (by omega)⟩ (by omega)
   rw[this];constructor
   ·rintro(h | h);·omega
    exact absurd h N
   intro h;left;omega
  obtain⟨n',k1,k2,k3⟩:=T.get q;refine⟨n',k1,?_,λj hj hT=>?_⟩;·unfold ma tn;rw[if_neg hqq,if_neg hqr2];exact k2
  have N:j≠i:=(by intro e;subst e;refine hT ?_;rw[hat3];unfold ma tn;rw[if_neg hqq,if_neg hqr2]);rw[<-k3 j hj hT,R j];simp[N]
 | false=>
 have hha : ∀oj,pj E o oj=false/\pj E oj o=false:=λoj=>⟨ph (by omega),Tl hat⟩;have hall : ∀q j,j<ops.size->turns sts j q->(L j=true↔j<i):=by
  intro q j hj hT;have J:=kJ hj;refine uo C hc ho hi hed (by omega) J (.inl hb4) (hha _) ?_;rcases Hw C A B F D G J hT with hm | ⟨hcj,_⟩
  ·exact .inr (.inr ⟨hcl,Bg C A B J hm⟩)
  omega
 have hg:g1=(sts i).hp.get:=funext λq=>T.Ox (jd O) (hall q);have hD:tT Z (sts i).hp:=by
  intro q l hq;rcases T.hand q (by rw[hq];simp)with h | ⟨j,h1,h2,h3,h4⟩
  ·rcases eC i c with V | V
   ·have:=T.cut i o V ho (by omega);rw[hi]at this;cases this
   exact C1 h (s8 C A B V (jd O) _ _)
  have J:=kJ h1;have N:=(uo C hc ho hi hed (by omega) J (.inl hb4) (hha _) (.inr (.inr ⟨hcl,Bg C A B J h4⟩))).1 h2;exact C1 h4.2 (s8 C A B (show j+1<=i from N) (jd O) _ _)
 have hO:z8 M1 Z ⟨tm1,(sts i).hp⟩ nt a1 w1:=⟨by rw[<-hg];exact T.sim,hD,X,hnt⟩;obtain⟨x,S,hx,Y,hev⟩:=Km hlook step;refine E7 (E:=E) (Q:=Q) hO hpc htc (λh=>by cases h) (.inl rfl) hev λa' w' ⟨⟨M',ι',hO',hF'⟩,hd'⟩=>hK a' w' ⟨hc',hd'.trans hds,M',ι',S,(sts (i+1)).hp.get,i+1,u4 C.toRegB ho R hi hTS hx Y,hO'.tr,hO'.nt,hO'.sim,?_,O,?_,?_,?_⟩;·have:=T.fwd;rw[hg]at this;exact this.trans hF'
 ·intro j oj hj J hcj;by_cases N:j=i;·exact(R j).2 (.inr N)
  exact(R j).2 (.inl ((uo C hc ho hi hed (by omega) J (.inl hb4) (hha _) (.inr (.inr ⟨hcl,hcj⟩))).2 (by omega)))
 ·intro q hq;cases hqq:ι' q with
  | none=>exact absurd hqq hq
  | some l=>exact .inl (hO'.dom q l hqq)
 intro q;refine⟨i+1,O,rfl,λj hj hT=>?_⟩;rw[R j];by_cases N:j=i;·subst N;simp
 rw[hall q j hj hT];constructor
 ·rintro(h | h);·omega
  exact absurd h N
 intro h;left;omega
omit F D I G in
theorem Nt{L:Nat->Bool}(d : ∀i,i<ops.size->L i=true){a z:Act}{N:World}(J:a.defers=ds)(T:Xv E nt ops sts M ι w ds L z N):kS M ι (sts 0) a w nt (sts ops.size) z N:=by
 obtain⟨W,n,O,k,tm1,R,c,u,x,p,m⟩:=T;have K : ∀t,dA tm1 t=dA (sts ops.size).tm t:=by
  intro t;obtain⟨v,U⟩:=u t;obtain⟨S,y⟩:=KX C.toRegB A ops.size (cH _) t;by_cases e : ∃j,j<ops.size/\jy ops j=some t;·obtain⟨j,b,f⟩:=e;rw[v j b (d j b) f,S j b (by simpa using b) f]
  rw[U λj b _ f=>e ⟨j,b,f⟩,y λj b _ f=>e ⟨j,b,f⟩]
 have g:TR O k (sts ops.size).tm z:=⟨λt=>by rw[<-K];exact x.at_ t⟩;have Q:R=(sts ops.size).hp.get:=funext λq=>m.Ox (cH _) λj b _=>⟨λ_=>b,λ_=>d j b⟩;refine⟨⟨O,k,⟨by rw[<-Q];exact m.sim,?_,g,p⟩,by rw[<-Q];exact m.fwd⟩,n.trans J.symm⟩;intro q l V;rcases m.hand q (by rw[V];simp)with h | ⟨j,v,_,_,y⟩
 ·exact C1 h (s8 C A B m.le (cH _) _ _)
 exact C1 y.2 (s8 C A B (show j+1<=ops.size from v) (cH _) _ _)
theorem YU(W : ∀f xs y,pc f xs=some y->mu E.P f xs y)(htc : ∀f xs H y H',tc f xs H=some (y,H')->rz E.P f xs H y H'){ro:Option Nat}{a0:Act}(J:a0.defers=ds){Q:Exit->Act->World->Prop}
 (hQ : ∀R w',kS M ι (sts 0) a0 w nt (sts ops.size) R w'->Q .normal R w') : ∀(b:Nat)(a:Array Bool)(V:Act)(O:World),a.size=ops.size ->
 (List.range ops.size).countP (λi => !a.getD i false)<=b->Xv E nt ops sts M ι w ds (λi=>a.getD i false) V O->wpAnyIn (FW ro) 0 E.P .any ops Q b a V O:=by
 have CN : ∀ {a:Array Bool},a.size=ops.size->Region.ready .any ops a=[] ->∀i,i<ops.size->a.getD i false=true:=by
  intro a g h i;induction i using Nat.strongRecOn with | ind i ih=>
  intro k;cases x:a.getD i false with
  | true=>rfl
  | false=>
   exfalso;have m:=kJ k;have hl':a.getD i true=false:=by
    have:i<a.size:=(by omega);simpa [Array.getD,this] using x
   have:i∈Region.ready .any ops a:=(by rw[iQx];refine⟨hl',_,m,λe S hb=>?_⟩;have v:e.on∈eS ops[i]:=(by unfold eS;exact jO.2 ⟨e,AR.2 ⟨by simpa using S,hb⟩,rfl⟩);have c:=C.edges i _ m _ v;exact ih e.on c (by omega));rw[h]at this;cases this
 intro b;induction b with
 | zero=>
  intro a V O g hf U;have l : ∀i,i<ops.size->a.getD i false=true:=by
   intro i k;cases x:a.getD i false with
   | true=>rfl
   | false=>exfalso;have:0<(List.range ops.size).countP (λi => !a.getD i false):=List.countP_pos_iff.2 ⟨i,yb.2 k,by rw[x];rfl⟩;omega
  refine⟨?_,hQ _ _ (Nt C A B l J U)⟩;refine Ug.2 λi k=>?_;rw[iQx]at k;obtain⟨u,o,m,_⟩:=k;have c:i<ops.size:=(iO.1 m).1;have T:=l i c;have:i<a.size:=by omega
  simp[Array.getD,this]at u T;rw[T]at u;cases u
 | succ b ih=>
  intro a V O g hf U;refine⟨λhr=>hQ _ _ (Nt C A B (CN g hr) J U),λi k=>?_⟩;rw[iQx]at k;obtain⟨u,o,m,Y⟩:=k;have c:i<ops.size:=(iO.1 m).1;have z:i<a.size:=by omega
  have N:a.getD i false=false:=(by simpa [Array.getD,z] using u);have n : ∀e∈eS o,(λi=>a.getD i false) e=true:=(by intro e S;unfold eS at S;obtain⟨d,hd,rfl⟩:=jO.1 S;obtain⟨T,h2⟩:=AR.1 hd;exact Y d (by simpa using T) h2);have t : ∀j,(λj=>(a.setIfInBounds i true).getD j false) j=true↔((λj=>a.getD j false) j=true\/j=i):=by
   intro j;simp only;by_cases q:j=i;·subst q;simp[z]
   rw[getD_set_ne false (tx q)];simp[q]
  have:=Tc (E:=E) (tc:=tc) (ro:=ro) (K:=wpAnyIn (FW ro) 0 E.P .any ops Q b (a.setIfInBounds i true)) (Q:=Q) C A B F D I G W htc (L:=λi=>a.getD i false) m N n t U λR w' X=>by
   refine ih _ R w' (by simp[g]) ?_ X;have:=FR (p:=λj => !a.getD j false) (p':=λj => !(a.setIfInBounds i true).getD j false) (i:=i) (λj Z=>by
    simp only[dI]at Z ⊢;cases x:a.getD j false with
    | false=>rfl
    | true=>have:=(t j).2 (.inl x);simp only at this;rw[this]at Z;cases Z) (by simp only[N,B3]) (by have:=(t i).2 (.inr rfl);simp only at this ⊢;rw[this];rfl) (List.range ops.size) (yb.2 c)
   omega
  unfold wpOpIn;rw[m];simp only;split;·rename_i hw;rw[if_pos hw]at this;exact this
  rename_i hw;rw[if_neg hw]at this;exact⟨λ_ _=>trivial,this⟩
end
def WZ{E:Env}(R:E.P.follows .mixedOrders=true){ops:Array Oper}(b:Wk E ops=true){pc:FuncId->List AV->Option AV}(n : ∀f xs y,pc f xs=some y->mu E.P f xs y)
 {tc:uE->List AV->aa->cp} (v : ∀f xs H y H',tc f xs H=some (y,H')->rz E.P f xs H y H') {nt dep id:Nat} {st c:St} {M:Mem} {ι:Map} {a:Act} {w:World} {ro:Option Nat} {Q:Exit->Act->World->Prop}
 (h:nW E pc tc nt dep true ops ops.toList st=some c) (I:tX E ops c=true) (e:z8 M ι st nt a w) (S : ∀J w',kS M ι st a w nt c J w'->Q .normal J w'):(Code.region id ops true).wpIn (FW ro) 0 E.P Q a w:=by
 obtain⟨sts,L,z,N⟩:=HL ops.toList st c h;rw[B4]at z;have C:=YQ b;have A : ∀i o,ops[i]?=some o->evalOp E pc tc nt dep true ops o (sts i)=some (sts (i+1)):=λi o O=>N i o (by simpa using O);subst L;subst z;have p:(sC E ops).isEmpty=false:=by
  unfold Wk at b;rw[aT]at b;simpa using b.1
 unfold tX at I;rw[p,Er,aT,aT]at I;refine wpIn_region_any R ?_;have u:uN M ι (sts 0).hp.get w M ι (sts 0).hp.get { w with drawn:=w.drawn+1} :=
  ⟨rfl,rfl,rfl,cH _,λ_ _ _=>rfl,λ_ _ _ h=>h,λ_ _ h=>h,λr k l h T => .inr ⟨r,k,l,h,T,rfl⟩,λ_ _ _ h => .inl h⟩
 have d : ∀i,(Array.replicate ops.size false).getD i false=false:=by
  intro i;simp only[C3,O1];split<;>rfl
 refine YU (tc:=tc) (M:=M) (ι:=ι) (w:=w) (a0:=a) C A I.2.2 e.sim e.dom I.1 I.2.1 n v rfl S ops.size _ a _ (by simp) ?_ ?_;·exact xv iQM (by simp)
 refine⟨λi o x=>?_,rfl,M,ι,(sts 0).tm,(sts 0).hp.get,0,?_,e.tr,e.nt,e.sim.drew rfl,u,En _,λj o g=>absurd g (Nat.not_lt_zero _),λq K=>?_,λq=>⟨0,En _,rfl,λj _ _=>⟨λg=>?_,λg=>absurd g (Nat.not_lt_zero _)⟩⟩⟩;·exact absurd ((d i).symm.trans x) (by simp)
 ·exact λt=>⟨λi _ x=>absurd ((d i).symm.trans x) (by simp),λ_=>rfl⟩
 ·cases m:ι q with| none=>exact absurd m K| some l=>exact .inl (e.dom q l m)
 exact absurd ((d j).symm.trans g) (by simp)
end
end Go.Ab
namespace Go.Ab
open Go.ChangeShapes Go.WideShapes Go.RowKit
structure Kept (W W':World):Prop where
 os:W'.os=W.os
 output:W'.output=W.output
 size:W.heap.size<=W'.heap.size
 old : ∀b,b<W.heap.size->W'.heap[b]?=W.heap[b]?
def Kept.keptBut{W c:World}(h:Kept W c)(a:MemPlace->Prop):W.keptBut c a:=by
 refine⟨h.os,h.output,λi b=>?_⟩;rw[h.old i b];have:=kJ b;rw[this];cases W.heap[i]<;>simp
def Kept.frozen{W b:World}(h:Kept W b){a:Addr}(c:a.block<W.heap.size):b.frozen? a=W.frozen? a:=by
 unfold World.frozen?;rw[h.old _ c]
def Kept.same{W a:World}(h:Kept W a){p:MemPlace}(hp:p.block<W.heap.size):W.sameAt a p:=by
 cases p with| cell b off=>exact iQi (h.old b hp)| map b=>exact h.old b hp
section
variable{H:Type}{enc:TypeId × Value->H}{P:Program}
def KY{T:TypeId->Prop}(K:Kids P T)(L : ∀t e,T t->P.underlying t=some (.slice e)->0<P.cellsOf e){W l:World}(z:Kept W l){u:Nat->Bool}{a:Nat} : ∀ {b:List TypeId} {c:List Value} {ds:List (DataW H)} {ps:List MemPlace},(∀t∈b,T t) ->
 DataW.TrodAll enc P W a (λ_=>true) true b c ds ps->(∀p∈ps,u p.block=true)->DataW.TrodAll enc P l a u true b c ds ps:=by
 intro b c ds ps g h j;have m:=h.respare K L g j;have k:=h.lt;clear h j g;induction b generalizing c ds ps with
 | nil=>obtain⟨rfl,rfl,rfl⟩:=trodAll_nil m;exact trodAll_mk0
 | cons t b Q=>obtain⟨v,y,d,N,p,q,rfl,rfl,rfl,⟨n,J⟩,O⟩:=trodAll_cons m;refine⟨p,q,⟨n,DataW.trod_carry n t _ _ J λx f=>z.same (k x (Aj _ f))⟩,Q O λx f=>k x (Fs _ f),rfl⟩
def SX{T:TypeId->Prop}(K:Kids P T)(hz : ∀t e,T t->P.underlying t=some (.slice e)->0<P.cellsOf e){f:Func}{s:ChangeSpec}{apart fresh c m:Bool}{W v:World}{args:Array Value}{ds gs:List (DataW H)}{d:List MemPlace}
 (hT : ∀t∈f.params.toList,T t) (J:s.vars=[]) (Z:DataW.Whole enc P f.params.toList s.vars apart W args.toList ds gs d) (hs:s.fn H ds = { results:=[.lit (.bool true)],args:=ds})
 {R:TypeId} (U:f.resultTypes = #[R]) (Y:P.underlying R=some .bool) (N:Kept W v):s.post enc P f apart fresh c m W args (.bool true) v:=by
 have L:=Z;obtain⟨p,q,X,S,rfl,y,z⟩:=L;rw[J]at S;obtain⟨rfl,rfl⟩:=trodVars_none S;have u:=X.lt;have k:s.fn H (ds++[]) = { results:=[.lit (.bool true)],args:=ds}:=by rw[rQ];exact hs
 have j : ∀(b:Nat)(g:Nat->Bool)(V:Bool),DataW.TrodAll enc P v b g V f.resultTypes.toList ((Value.bool true).resultList f.resultTypes.size) (s.fn H (ds++[])).results []:=by
  intro b g V;rw[U,k];exact trodAll_mk1 (shut_bool Y true)
 have a : ∀g:Nat->Bool,(∀x∈p,g x.block=true)->DataW.TrodAll enc P v 0 g true f.params.toList args.toList (s.fn H (ds++[])).args p:=by
  intro g O;rw[k];exact KY K hz N hT X O
 have l : ∀g:Nat->Bool,DataW.TrodVars enc P v g s.vars (s.fn H (ds++[])).vars []:=by
  intro g;rw[J,k];rfl
 rw[rQ]at z y;refine⟨ds,[],p++[],[],p,[],Z,j _ _ _,a _ (λx Q=>by simpa using u x Q),l _,N.keptBut _,λ_=>?_⟩;have h:=trodAll_append (a (λ_=>true) (λ_ _=>rfl)) (j 0 (λ_=>true) true);rw[rQ]at h;refine⟨ok_one U rfl (okWide_bool_mk Y true),_,[],p++[],⟨p,[],h,(by rw[J];rfl),rfl,?_,?_⟩,λx Q _=>Q⟩;·intro b n hp;rw[rQ]at hp;rw[N.frozen (show(⟨b,n,none⟩:Addr).block<W.heap.size from u _ hp)];exact y b n hp
 intro ha;rw[rQ];exact z ha
end
def Qr{E:Env}{ok:Array Oper->Bool}(j:E.Ok ok){n:Nat}{f:FuncId}{xs:List AV}(h:cV E (bZ E n) f xs=some (.v (.bool true))){W:World}{us:List Value}
 (g:mh (λb o=>W.cell? ⟨b,o,none⟩) dq xs us):Calls E.P f us.toArray W λe d=>e = .returned (.bool true)/\Kept W d:=by
 refine((ZB j h).2 _ W us (λ_ _ _ h=>h) g).mono λe d ⟨v,M',he,hend⟩=>?_;obtain⟨ls,k,c,_⟩:=hend.res ⟨0,0,0,0⟩;have a:aj ⟨0,0,0,0⟩ depth (.v (.bool true)) []=(.v (.bool true),[]):=wZ _ depth 1 _ _ rfl;rw[a]at c;cases c;exact⟨he,hend.os,hend.output,hend.size,hend.old⟩
def WJ(E:Env)(l:List FuncId):Bool:=l.all λf=>match E.P.funcs[f]? with
 | some fn => !(fn.name == "runtime.NumGoroutine")&&(match fn.body with | some c=>codeOk (IK E) c | none=>true)
 | none=>false
def ag3(ops:Array Oper)(i:Nat):Nat:=match ops[i]? with
 | some o=>(match o.dst with | some d=>d | none=>0)
 | none=>0
def A1:List (Nat × Nat × Nat × List (Tmp × Tmp))->Array Oper->List (Tmp × Tmp)
 | [],_=>[]
 | (a,b,c,l) :: d,ops=>cond (Nat.beq b ops.size) (cond (Nat.beq a (ag3 ops 0)) (cond (Nat.beq c (ag3 ops (b - 1))) l (A1 d ops)) (A1 d ops)) (A1 d ops)
def R2(e:List (Nat × Nat × Nat))(o:Oper):Bool:=match o.op with
 | .call c=>(match c.callee with
  | .builtin .append=>(match o.dst,c.args.toList with
   | some d,[.tmp a,.tmp b]=>e.any λ(x,y,z)=>Nat.beq x d&&Nat.beq y a&&Nat.beq z b
   | _,_=>false)
  | .value (.tmp t)=>(match o.dst with
   | some d=>e.any λ(x,y,z)=>Nat.beq x d&&Nat.beq y t&&Nat.beq z 66666
   | none=>false)
  | .builtin .len=>(match o.dst with
   | some d=>e.any λ(x,y,z)=>Nat.beq x d&&Nat.beq y 0&&Nat.beq z 55555
   | none=>false)
  | _=>false)
 | .buildSlice _ n _=>(match o.dst with
  | some d=>e.any λ(x,y,z)=>Nat.beq x d&&Nat.beq y n&&Nat.beq z 77777
  | none=>false)
 | _=>false
def V9:Option Operand->Bool
 | some (.const (.slice none 0 0))=>true
 | _=>false
def abP(o:Oper):Bool:=match o.op with
 | .call c=>(match c.callee with
  | .builtin .append=>V9 c.args[0]?
  | _=>false)
 | _=>false
def UG(a:List (Nat × Nat × Nat))(o:Oper):Bool:=match o.op with
 | .buildSlice _ n _=>(match o.dst with
  | some d=>a.any λ(x,y,z)=>Nat.beq x d&&Nat.beq y n&&Nat.beq z 88888
  | none=>false)
 | .call c=>(match o.dst with
  | some d=>a.any λ(x,y,z)=>Nat.beq x d&&((Nat.beq y 0&&Nat.beq z 88888)||(Nat.beq z 88889&&(match c.callee with
   | .value (.func g)=>Nat.beq g y
   | _=>false)))
  | none=>false)
 | _=>false
def Mo(a:List (Nat × Nat × Nat))(o:Oper):Bool:=abP o||R2 a o
def Zu(P:Program)(l aX lZ:List FuncId)(strict:Oper->Bool)(apart:Array Oper->List (Tmp × Tmp))(gJ:Oper->Bool:=λ_=>false):Env := { gJ:=gJ,P:=P,strict:=strict,apart:=apart,mode:=λf=>if aX.contains f then (if lZ.contains f then 3 else 1) else if lZ.contains f then 2 else 0,allowed:=λf=>l.contains f,spec:=λ_ _=>none}
def II(P:Program)(l aX lZ:List FuncId)(strict:Oper->Bool:=λ_=>false)(apart:Array Oper->List (Tmp × Tmp):=λ_=>[])(gJ:Oper->Bool:=λ_=>false)(S8:List (FuncId × List AV × AV):=[])(wide:Oper->Bool:=λ_=>false)(uI:FuncId->Option TypeId:=λ_=>none)(thrSpec:FuncId->List AV->aa->Option (AV × aa):=λ_ _ _=>none)(sm:OB:=V7):Env:=
 {gJ:=gJ,P:=P,strict:=strict,apart:=apart,mode:=λf=>if aX.contains f then (if lZ.contains f then 3 else 1) else if lZ.contains f then 2 else 0,allowed:=λf=>l.contains f,spec:=Wd S8,ok:=IK (Zu P l aX lZ strict apart gJ),wide:=wide,uI:=uI,thrSpec:=thrSpec,sm:=sm}
noncomputable def NN:OB:=⟨λH H' => @decide (∀q k,H.get q=some k->H'.get q=some k) (Classical.propDecidable _),λH H' h => @of_decide_eq_true _ (Classical.propDecidable _) h⟩
def NM{H H':aa}(h : ∀q k,H.get q=some k->H'.get q=some k):NN.f H H'=true := @decide_eq_true _ (Classical.propDecidable _) h
def LK(P:Program)(f:Func):Bool:=match f.resultTypes.toList with
 | [t]=>(match P.underlying t with | some .bool=>true | _=>false)
 | _=>false
def Qu{P:Program}{f:Func}(h:LK P f=true) : ∃a,f.resultTypes = #[a]/\P.underlying a=some .bool:=by
 unfold LK at h;split at h
 ·rename_i t c;split at h;·rename_i b;exact⟨t,by rw[<-Kz,c],b⟩
  cases h
 cases h
end Go.Ab
