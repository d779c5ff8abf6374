/-
  Regions where stores, and what looks at memory at one place, come in any order. No statement of a seat is proved here.
-/
import Derived.ReadAgain
import Derived.OpenShut
import Derived.ChangeSame
import Derived.RowKit
import Derived.JoinedOf
import Derived.Test.YtehkjjcdkbcebaaGreatAbsDrawn
set_option linter.unusedVariables false
set_option linter.unusedSimpArgs false
set_option linter.unusedSectionVars false
set_option linter.unnecessarySimpa false
namespace Go.Ab
section
structure TY (E:Env) (ops:Array Oper):Prop extends RegB ops where
 made : ∀(i:Nat)(o:Oper),ops[i]?=some o->cls E o=3->o.dst.isSome=true
 stay : ∀(i:Nat)(o:Oper),ops[i]?=some o->cls E o≠0->cls E o≠3->mR E o=false ->∃t,kj E o=some t /\∀k,gx ops k=some t->k<i
 must : ∀(i j:Nat)(oi oj:Oper),ops[i]?=some oi->ops[j]?=some oj->j<i->nc E oi oj=true->((cN ops.toList []).getD i 0).testBit j=true
 meet : ∀(i j:Nat)(oi oj:Oper),ops[i]?=some oi->ops[j]?=some oj->j<i->yn (cls E oi) (cls E oj)=true->mR E oi=false->mR E oj=false->((cN ops.toList []).getD i 0).testBit j=true\/settled E ops oi oj=true
theorem zL(E:Env)(o:Oper):cls E o<=4:=by unfold cls;(repeat' split)<;>omega
theorem Qr{E:Env}{ops:Array Oper}(h:NZ E ops=true):TY E ops:=by
 unfold NZ at h
 rw[aY]at h
 replace h:=h.2
 simp only[da,sj]at h
 have one : ∀(i:Nat)(o:Oper),ops[i]?=some o->(dP o).all (· < i)=true/\J9 E ops i o=true /\∀(j:Nat)(a:Oper),j<i->ops[j]?=some a->IV E ops (cN ops.toList []) o a i j=true:=by
  intro i o e
  have hi:i<ops.size:=(fP.1 e).1
  have:=h i hi
  rw[e]at this
  simp only[aY,da,sj]at this
  refine⟨by simpa using this.1.1,this.1.2,λj a d l=>?_⟩
  have q:=this.2 j d
  rw[l]at q
  exact q
 have c : ∀(i j:Nat)(oi a:Oper),ops[i]?=some oi->ops[j]?=some a->j<i->tf ops (cN ops.toList []) oi a i j=true /\
  (!nc E oi a||((cN ops.toList []).getD i 0).testBit j)=true/\(!yn (cls E oi) (cls E a)||mR E oi||mR E a||((cN ops.toList []).getD i 0).testBit j||settled E ops oi a)=true:=by
  intro i j oi a hi d b
  have:=(one i oi hi).2.2 j a b d
  unfold IV at this
  rw[aY,aY]at this
  exact⟨this.1.1,this.1.2,this.2⟩
 refine⟨Kz (λi o e=>(one i o e).1) λi j oi a hi d b=>(c i j oi a hi d b).1,?_,?_,?_,?_⟩
 ·intro i o e v
  have:=(one i o e).2.1
  unfold J9 at this
  rw[v]at this
  exact this
 ·intro i o e J u n
  have:=(one i o e).2.1
  unfold J9 at this
  have f:Ij ops i (kj E o)=true:=by
   split at this
   ·exact absurd (by assumption) J
   ·exact absurd (by assumption) u
   ·rw[n,tl]at this;exact this
  unfold Ij at f
  split at f
  ·rename_i t z
   refine⟨t,z,λk g=>?_⟩
   simp only[da,sj]at f
   have m:k<ops.size:=by
    unfold gx at g
    cases s:ops[k]? with
    | none=>rw[s]at g;cases g
    | some x=>exact(fP.1 s).1
   have:=f k m
   rw[g]at this
   simpa using this
  ·cases f
 ·intro i j oi a hi d b p
  have:=(c i j oi a hi d b).2.1
  rw[p]at this
  simpa using this
 ·intro i j oi a hi d b p y r2
  have:=(c i j oi a hi d b).2.2
  rw[p,y,r2]at this
  simpa using this
def Made(H a:ab)(q:Ref):Prop:=H.gen q.d q.t<=q.g/\q.g<a.gen q.d q.t
structure ti (H H':ab):Prop where
 gen : ∀d t,H.gen d t<=H'.gen d t
 born : ∀q,H'.get q≠none->H.get q≠none\/Made H H' q
 arr : ∀q b b',H.get q=some b->q.g<H.gen q.d q.t->H'.get q=some b'->b'.arr=b.arr
theorem ti.refl(H:ab):ti H H:=⟨λ_ _=>aW _,λ_ h => .inl h,λq b b' h _ a=>by rw[h]at a;cases a;rfl⟩
theorem ti.keyed(H:ab)(d t:Nat)(bs:List aJ):ti H (keyed ⟨d,t,H.gen d t,0⟩ 0 bs H):=by
 refine⟨λm t'=>?_,λq h=>?_,λq b b' h l c=>?_⟩
 ·rw[ab.jV];split
  ·rename_i a;obtain⟨rfl,rfl,_⟩:=a;exact yX _
  ·exact aW _
 ·rw[ab.kF]at h
  unfold oQ at h
  split at h
  ·rename_i a
   obtain⟨j,f,g,k⟩:=a
   refine .inr ⟨?_,?_⟩
   ·rw[j,f,g];exact aW _
   ·rw[ab.jV,if_pos ⟨j,f,by intro e;rw[e]at k;simp at k⟩,g];exact nD _
  ·exact .inl h
 ·rw[ab.kF]at c
  unfold oQ at c
  split at c
  ·rename_i a
   obtain⟨j,f,g,k⟩:=a
   rw[j,f,g]at l
   exact absurd l (wu _)
  ·rw[h]at c;cases c;rfl
theorem Fk{g:cf}{R:List Ref}{q:Ref}{b b':aJ}(h:g q=some b)(a:pI g R q=some b'):b'.arr=b.arr:=by
 unfold pI at a
 split at a
 ·rw[h]at a;simp at a;rw[<-a]
 ·rw[h]at a;cases a;rfl
theorem CJ{g:cf}{R:List Ref}{q:Ref}:pI g R q≠none->g q≠none:=by
 unfold pI
 split
 ·intro h e;rw[e]at h;exact h rfl
 ·exact id
theorem ti.put{H:ab}{R:List Ref}{r:Ref}{b:aJ}{es:List AV}(c:(bG H R).get r=some b):ti H ((bG H R).put r (some { b with es})):=by
 refine⟨λd t=>?_,λq h=>?_,λq b1 b' h f a=>?_⟩
 ·rw[ab.fp _ _ _ (by rw[c];rfl),ab.fB];exact aW _
 ·rw[ab.aj]at h
  split at h
  ·rename_i e;subst e;exact .inl (CJ (R:=R) (by rw[<-ab.cB,c];simp))
  ·exact .inl (CJ (R:=R) (by rw[<-ab.cB];exact h))
 ·rw[ab.aj]at a
  split at a
  ·rename_i e;subst e
   cases a
   rw[ab.cB]at c
   exact(Fk h c:b.arr=b1.arr)
  ·rw[ab.cB]at a
   exact Fk h a
theorem FQ{P:Program}{H e:ab}{t:TypeId}{a x:Option AV}{y:AV}(h:iu P H t a x=some (y,e)):ti H e:=by
 unfold iu at h
 split at h
 ·split at h
  ·rename_i r' i j q n _ b f
   obtain⟨⟨g,p,l⟩,h⟩:=dG.1 h
   split at h
   ·split at h
    ·rename_i s m
     split at h
     ·cases h
     ·rename_i c
      obtain⟨k,h⟩:=dG.1 h
      simp only[aZ]at h
      obtain⟨es',d,h⟩:=h
      cases h
      exact ti.put (by rw[ab.cB];unfold pI;rw[if_neg c];exact f)
    ·cases h
   ·simp only[aZ]at h
    obtain⟨es',d,h⟩:=h
    cases h
    exact ti.put (R:=[]) f
  ·cases h
 ·cases h
theorem wD{P:Program}{H c:ab}{t t':Option TypeId}{s x y:AV}(h:gT P H t t' s x=some (y,c)) :
 ∃r b z es f,iY s=some r/\H.get r=some b/\b.arr=true/\c=(⟨r.d,r.t,H.gen r.d r.t,0⟩,some ⟨z,es,true,f⟩) :: H.put r none:=by
 unfold gT at h
 split at h
 ·cases h
 ·split at h
  ·cases h
  ·split at h
   ·split at h
    ·cases h
    ·split at h
     ·split at h
      ·rename_i r' e len b g
       obtain⟨⟨_,a,_⟩,h⟩:=dG.1 h
       cases h
       exact⟨_,b,_,_,_,rfl,g,a,rfl⟩
      ·cases h
     ·cases h
   ·cases h
theorem FE{H:ab}{r:Ref}{o:Option aJ}(q:Ref):ab.get ((⟨r.d,r.t,H.gen r.d r.t,0⟩,o) :: H.put r none) q=if (⟨r.d,r.t,H.gen r.d r.t,0⟩:Ref)=q then o else if q=r then none else H.get q:=by
 simp only[ab.get,ab.aj]
theorem FF{H:ab}{r:Ref}{o:Option aJ}(a:(H.get r).isSome=true)(d t:Nat):ab.gen ((⟨r.d,r.t,H.gen r.d r.t,0⟩,o) :: H.put r none) d t=if r.d=d/\r.t=t then H.gen d t+1 else H.gen d t:=by
 simp only[ab.gen]
 rw[ab.fp _ _ _ a]
 split
 ·rename_i h;rw[h.1,h.2]
 ·rfl
theorem EJ{P:Program}{H j:ab}{t t':Option TypeId}{s x y:AV}(h:gT P H t t' s x=some (y,j)):ti H j /\∃r,iY s=some r /\∀q,j.get q≠H.get q->Made H j q\/q=r:=by
 obtain⟨r,b,z,es,f,n,u,l,rfl⟩:=wD h
 have k:(H.get r).isSome=true:=by rw[u];rfl
 have a : ∀q,(⟨r.d,r.t,H.gen r.d r.t,0⟩:Ref)=q->Made H ((⟨r.d,r.t,H.gen r.d r.t,0⟩,some ⟨z,es,true,f⟩) :: H.put r none) q:=by
  intro q e
  subst e
  refine⟨aW _,?_⟩
  rw[FF k,if_pos ⟨rfl,rfl⟩]
  exact nD _
 refine⟨⟨λd t=>?_,λq c=>?_,λq b1 b' p m g=>?_⟩,r,n,λq c=>?_⟩
 ·rw[FF k];split<;>omega
 ·rw[FE]at c
  split at c
  ·rename_i e;exact .inr (a q e)
  ·split at c
   ·exact absurd rfl c
   ·exact .inl c
 ·rw[FE]at g
  split at g
  ·rename_i e
   subst e
   exact absurd m (wu _)
  ·split at g
   ·cases g
   ·rw[p]at g;cases g;rfl
 ·rw[FE]at c
  split at c
  ·rename_i e;exact .inl (a q e)
  ·split at c
   ·rename_i e;exact .inr e
   ·exact absurd rfl c
def Seen(g a:cf)(v:AV):Prop :=∀q,iY v=some q->g q≠none->a q=g q
theorem rr{g a:cf}{v:AV}(h:Seen g a v){q:Ref}(d:iY v=some q){b:aJ}(c:g q=some b):a q=some b:=by rw[h q d (by rw[c];simp),c]
theorem Ci{P:Program}{g e:cf}{t:TypeId}{v x:AV}{bs:List aJ}(h:lz P g t (some v)=some (x,bs))(f:Seen g e v):bs=[]/\lz P e t (some v)=some (x,bs):=by
 unfold lz at h ⊢
 cases v<;>(try (simp at h;done))
 ·rename_i r i j
  cases c:eA P t<;>cases a:av P t<;>rw[c,a]at h<;>(try (simp at h;done))
  simp only at h ⊢
  cases d:g r with
  | none=>rw[d]at h;simp at h
  | some b=>
   rw[d]at h
   rw[rr f rfl d]
   exact⟨(nG h).2,h⟩
 ·cases c:eA P t<;>cases a:av P t<;>rw[c,a]at h<;>(try (simp at h;done))
  exact⟨(nG h).2,h⟩
theorem uA{P:Program}{g j:cf}{t:TypeId}{v x:AV}{f:Option AV}{bs:List aJ}(h:bE P g t (some v) f=some (x,bs))(m:Seen g j v):bs=[]/\bE P j t (some v) f=some (x,bs):=by
 unfold bE at h ⊢
 cases n:f.bind qK with
 | none=>rw[n]at h;simp at h
 | some k=>
 rw[n]at h
 simp only at h ⊢
 cases he:dV P t with
 | some e=>
  rw[he]at h
  simp only at h ⊢
  cases c:av P e with
  | none=>rw[c]at h;cases v<;>simp at h
  | some z=>
  rw[c]at h
  cases v<;>(try (simp at h;done))
  ·simp only at h ⊢
   exact⟨by obtain⟨_,h⟩:=dG.1 h;cases h;rfl,h⟩
  ·rename_i r d len cap
   simp only at h ⊢
   cases a:g r with
   | none=>rw[a]at h;simp at h
   | some b=>
    rw[a]at h
    rw[rr m rfl a]
    exact⟨by obtain⟨_,h⟩:=dG.1 h;cases h;rfl,h⟩
  ·rename_i r d len cap
   simp only at h ⊢
   cases a:g r with
   | none=>rw[a]at h;simp at h
   | some b=>
    rw[a]at h
    rw[rr m rfl a]
    exact⟨by obtain⟨_,h⟩:=dG.1 h;cases h;rfl,h⟩
 | none=>
  rw[he]at h
  simp only at h ⊢
  refine⟨?_,h⟩
  cases l:mi P t with
  | none=>rw[l]at h;simp at h
  | some p=>
  rw[l]at h
  cases c:av P p.2 with
  | none=>simp only[c]at h;cases v<;>simp at h
  | some z=>
  simp only[c]at h
  cases v<;>(try (simp at h;done))
  ·obtain⟨_,h⟩:=dG.1 h;cases h;rfl
  ·obtain⟨_,h⟩:=dG.1 h;cases h;rfl
theorem Aa{P:Program}{g k:cf}{t:TypeId}{v x:AV}{lo hi d:Option (Option Int)}{bs:List aJ}(h:ca P g t (some v) lo hi d=some (x,bs))(l:Seen g k v):bs=[]/\ca P k t (some v) lo hi d=some (x,bs):=by
 have nil : ∀ {c:Prop} [Decidable c] {o:Option (Nat × Nat × Option Nat)} {f:Nat × Nat × Option Nat->AV × List aJ},(∀p,(f p).2=[])->(if c then o.map f else none)=some (x,bs)->bs=[]:=by
  intro c _ o f m h
  obtain⟨_,h⟩:=dG.1 h
  obtain⟨p,_,h⟩:=aZ.1 h
  have:=m p
  rw[h]at this
  exact this
 unfold ca at h ⊢
 cases lo<;>cases hi<;>cases d<;>(try (simp at h;done))
 simp only at h ⊢
 cases v<;>(try (simp at h;done))
 ·rename_i y
  cases y<;>(try (simp at h;done))
  ·simp only at h ⊢
   exact⟨nil (λ_=>rfl) h,h⟩
  ·split at h
   ·rename_i e
    simp only[dc,AV.v.injEq,Value.slice.injEq]at e
    obtain⟨rfl,rfl,rfl⟩:=e
    exact⟨nil (λ_=>rfl) h,h⟩
   ·rename_i e;simp at e
   ·rename_i e;simp at e
   ·rename_i e;simp at e
   ·rename_i e;simp at e
   ·cases h
 ·simp only at h ⊢
  exact⟨nil (λ_=>rfl) h,h⟩
 ·rename_i r j len cap
  simp only at h ⊢
  cases a:g r with
  | none=>rw[a]at h;simp at h
  | some b=>
   rw[a]at h
   rw[rr l rfl a]
   exact⟨nil (λ_=>rfl) h,h⟩
 ·rename_i r j len cap
  simp only at h ⊢
  cases a:g r with
  | none=>rw[a]at h;simp at h
  | some b=>
   rw[a]at h
   rw[rr l rfl a]
   exact⟨nil (λ_=>rfl) h,h⟩
theorem Fp{g c:cf}{v:AV}{p:Nat × List AV}(h:bW g v=some p)(e:Seen g c v):bW c v=some p:=by
 unfold bW at h ⊢
 cases v<;>(try (simp at h;done))
 ·rename_i y
  cases y<;>first | exact h | (simp at h;done)
 ·exact h
 ·rename_i r d len cap
  simp only at h ⊢
  cases a:g r with
  | none=>rw[a]at h;simp at h
  | some b=>
   rw[a]at h
   rw[rr e rfl a]
   exact h
theorem wL{P:Program}{g f:cf}{r r':Ref}{src dst:TypeId}{v x:AV}{bs:List aJ}(k:cI P dst=false)(h:bC P g r src dst (some v)=some (x,bs))(m:Seen g f v) :
 bs=[]/\bC P f r' src dst (some v)=some (x,bs):=by
 have other : ∀ {y:AV},y=v->(if cI P src&&isStr P dst then
  match bW g y with
  | some (_,es)=>(es.mapM byteOf).map λl=>((AV.v (.string ⟨l.toArray⟩),[]):AV × List aJ)
  | none=>none
  else if src == dst&&cI P src then
   match y with
   | .bD r' _ _ _=>(match g r' with
    | some b=>if b.esz=1 then some (y,[]) else none
    | none=>none)
   | _=>none
  else none)=some (x,bs)->bs=[]/\(if cI P src&&isStr P dst then
   match bW f y with
   | some (_,es)=>(es.mapM byteOf).map λl=>((AV.v (.string ⟨l.toArray⟩),[]):AV × List aJ)
   | none=>none
  else if src == dst&&cI P src then
   match y with
   | .bD r' _ _ _=>(match f r' with
    | some b=>if b.esz=1 then some (y,[]) else none
    | none=>none)
   | _=>none
  else none)=some (x,bs):=by
  intro y e h
  split at h
  ·rename_i j
   rw[if_pos j]
   cases he:bW g y with
   | none=>rw[he]at h;simp at h
   | some p=>
    rw[he]at h
    rw[Fp he (e ▸ m)]
    refine⟨?_,h⟩
    obtain⟨_,_,h⟩:=aZ.1 h
    cases h;rfl
  ·rename_i j
   split at h
   ·rename_i d
    simp only[aY,beq_iff_eq]at d
    rw[d.1,k]at d
    simp at d
   ·cases h
 unfold bC at h ⊢
 cases v
 case v y=>
  cases y
  case string s=>
   simp only[k,xc,gH,if_false]at h ⊢
   exact⟨by obtain⟨_,h⟩:=dG.1 h;cases h;rfl,h⟩
  case slice a l c=>
   rcases a with _ | a
   ·rcases l with _ | l
    ·rcases c with _ | c
     ·exact⟨by obtain⟨_,h⟩:=dG.1 h;cases h;rfl,h⟩
     ·exact⟨(nG h).2,h⟩
    ·exact⟨(nG h).2,h⟩
   ·exact⟨(nG h).2,h⟩
  all_goals exact⟨(nG h).2,h⟩
 all_goals exact other rfl h
theorem ze{P:Program}{H l:ab}{d a:Nat}{t:TypeId}{n:Nat}{p:List (Nat × AV)}{x:AV}(h:iM P H ⟨d,a,H.gen d a,0⟩ t n (some p)=some (x,l)):ti H l /\∀q,l.get q≠H.get q->Made H l q\/q∈ba H.get (p.map (·.2)):=by
 simp only[iM,aZ]at h
 obtain⟨b,z,h⟩:=h
 injection h with K s
 subst s
 generalize J:ba H.get (p.map (·.2))=R
 have c : ∀q,ab.get ((⟨d,a,H.gen d a,0⟩,some b) :: bG H R) q=if (⟨d,a,H.gen d a,0⟩:Ref)=q then some b else pI H.get R q:=by
  intro q;simp only[ab.get,ab.cB]
 have j : ∀k t',ab.gen ((⟨d,a,H.gen d a,0⟩,some b) :: bG H R) k t'=if d=k/\a=t' then H.gen d a+1 else H.gen k t':=by
  intro k t';simp only[ab.gen,ab.fB]
 have f : ∀q,(⟨d,a,H.gen d a,0⟩:Ref)=q->Made H ((⟨d,a,H.gen d a,0⟩,some b) :: bG H R) q:=by
  intro q e
  subst e
  refine⟨aW _,?_⟩
  rw[j,if_pos ⟨rfl,rfl⟩]
  exact nD _
 refine⟨⟨λk t'=>?_,λq g=>?_,λq b1 b' v u m=>?_⟩,λq g=>?_⟩
 ·rw[j];split
  ·rename_i e;rw[<-e.1,<-e.2];exact yX _
  ·exact aW _
 ·rw[c]at g
  split at g
  ·rename_i e;exact .inr (f q e)
  ·exact .inl (CJ g)
 ·rw[c]at m
  split at m
  ·rename_i e;subst e;exact absurd u (wu _)
  ·exact Fk v m
 ·rw[c]at g
  split at g
  ·rename_i e;exact .inl (f q e)
  ·unfold pI at g
   split at g
   ·rename_i y;exact .inr y
   ·exact absurd rfl g
theorem ye{P:Program}{g c:cf}{t:TypeId}{v x:AV}{k:Option AV}{ok:Bool}{bs:List aJ}(h:lN P g t (some v) k ok=some (x,bs))(l:Seen g c v):bs=[]/\lN P c t (some v) k ok=some (x,bs):=by
 unfold lN at h ⊢
 cases v<;>(try (simp at h;done))
 rename_i r
 cases d:Ic P t with
 | none=>rw[d]at h;simp at h
 | some p=>
 obtain⟨m,n⟩:=p
 cases j:k.bind iy with
 | none=>rw[d,j]at h;simp at h
 | some q=>
 rw[d,j]at h
 simp only at h ⊢
 cases hm:kN g r with
 | none=>rw[hm]at h;simp at h
 | some a=>
 have e:kN c r=some a:=by
  unfold kN at hm ⊢
  cases f:g r with
  | none=>rw[f]at hm;simp at hm
  | some b=>rw[f]at hm;rw[rr l rfl f];exact hm
 rw[e]
 rw[hm]at h
 refine⟨?_,h⟩
 simp only at h
 split at h
 ·split at h
  ·obtain⟨_,_,h⟩:=aZ.1 h;cases h;rfl
  ·obtain⟨_,_,h⟩:=aZ.1 h;cases h;rfl
  ·cases h
 ·cases h
theorem OL{E:Env}{pc:FuncId->List AV->Option AV}{g e:cf}{tm:List AV}{r:Ref}{o:Oper}(b:blind E o=true){x:AV}{bs:List aJ}(h:bR E pc true g tm r o=some (x,bs)) :
 bR E pc true e tm r o=some (x,bs):=by
 unfold blind at b
 replace b:=(sk.1 b).2
 split at b
 ·rename_i a
  unfold bR at h ⊢
  simp only[a]at h ⊢
  exact h
 ·rename_i a
  unfold bR at h ⊢
  simp only[a]at h ⊢
  exact h
 ·rename_i c a
  obtain⟨l,d⟩:=sk.1 b
  split at d
  ·rename_i f k
   have j:c.args.toList=[]:=by simpa using l
   unfold bR at h ⊢
   simp only[a,j,k,tN,Em,od,aq,iZ,pR,ba,y8]at h ⊢
   exact h
  ·cases d
 ·cases b
theorem I2{E:Env}{o:Oper}(h:I3 E o=true):blind E o=true:=by
 unfold I3 at h
 unfold blind
 obtain⟨c,b⟩:=sk.1 h
 rw[c,hU]
 split at b
 ·rename_i a;rw[a]
 ·rename_i a;rw[a]
 ·cases b
theorem LH{E:Env}{oi a:Oper}(h:blind E oi=false):lR E oi a=false:=by
 unfold lR
 cases b:I3 E oi with
 | false=>rfl
 | true=>rw[I2 b]at h;cases h
theorem lQ{E:Env}{oi a:Oper}(h:cls E oi≠3):lR E oi a=false:=by
 unfold lR I3
 rw[beq_false_of_ne h]
 rfl
theorem LI{E:Env}{oi a:Oper}(h:((CW a.op).isSome&&a.dst.isSome)=false):lR E oi a=false:=by
 unfold lR
 rw[h,xc]
theorem I1{E:Env}{pc:FuncId->List AV->Option AV}{g:cf}{tm:List AV}{r:Ref}{o:Oper}(b:I3 E o=true){x:AV}{bs:List aJ}(h:bR E pc true g tm r o=some (x,bs)):bs≠[]:=by
 unfold I3 at b
 replace b:=(sk.1 b).2
 split at b
 ·rename_i a
  unfold bR at h
  simp only[a]at h
  unfold oG at h
  split at h
  ·split at h
   ·cases h;simp
   ·cases h
  ·cases h
 ·rename_i a
  unfold bR at h
  simp only[a]at h
  cases h;simp
 ·cases b
theorem KT{E:Env}{pc:FuncId->List AV->Option AV}{tc:pY->List AV->ab->cb}{nt dep:Nat}{ops:Array Oper}{o:Oper}{st d:St}{t:Tmp}(a:CW o.op=some t)(q:wanted ops st.tm o=some true)(h:evalOp E pc tc nt dep true ops o st=some d) :
 (∃x bs tm',bR E pc true st.hp.get st.tm ⟨dep,o.dst.getD 0,st.hp.gen dep (o.dst.getD 0),0⟩ o=some (x,bs)/\ct nt st.tm o.dst x=some tm'/\d=⟨tm',keyed ⟨dep,o.dst.getD 0,st.hp.gen dep (o.dst.getD 0),0⟩ 0 bs st.hp⟩) \/
 ∃c y z x,o.op = .call c/\c.callee = .builtin .append/\c.args.toList.mapM (aq st.tm)=some [y,z]/\gT E.P st.hp c.argTypes[0]? c.argTypes[1]? y z=some (x,d.hp)/\y=bZ st.tm t/\ct nt st.tm o.dst x=some d.tm:=by
 unfold evalOp at h
 rw[q]at h
 simp only at h
 split at h
 ·rename_i x bs u
  simp only[aZ]at h
  obtain⟨tm',j,rfl⟩:=h
  exact .inl ⟨x,bs,tm',u,j,rfl⟩
 ·split at h
  ·cases h
  ·split at h
   ·rename_i x H f
    simp only[aZ]at h
    obtain⟨tm',j,rfl⟩:=h
    refine .inr ?_
    unfold CW at a
    split at a
    ·rename_i c n
     split at a
     ·rename_i m
      split at a
      ·rename_i t' rest b
       cases a
       unfold evalW at f
       simp only[n,m,b]at f
       cases hm:List.mapM (aq st.tm) (Operand.tmp t :: rest) with
       | none=>rw[hm]at f;simp at f
       | some args=>
        rw[hm]at f
        have g:=hm
        simp only[kI,aq,od,o9,dF,fD]at hm
        obtain⟨l,v,e⟩:=hm
        simp at e
        subst e
        simp only at f
        split at f
        ·rename_i s y p k
         cases k
         exact⟨c,_,_,x,n,m,by rw[b];exact g,f,rfl,j⟩
        ·rename_i p k;cases p
        ·cases f
      ·cases a
     ·cases a
    ·cases a
   ·cases h
theorem GL{E:Env}{pc:FuncId->List AV->Option AV}{g:cf}{tm:List AV}{r:Ref}{o:Oper}{t:Tmp}(d:wP E.P o.op=some t){x:AV}{bs:List aJ}(h:bR E pc true g tm r o=some (x,bs)) :
 bs=[] /\∀f r',Seen g f (bZ tm t)->bR E pc true f tm r' o=some (x,bs):=by
 unfold wP at d
 split at d
 ·rename_i ty t' a
  cases d
  unfold bR at h ⊢
  simp only[a]at h ⊢
  exact⟨(Ci h (λ_ _ _=>rfl)).1,λf r' e=>(Ci h e).2⟩
 ·rename_i ty t' O a
  cases d
  unfold bR at h ⊢
  simp only[a]at h ⊢
  exact⟨(uA h (λ_ _ _=>rfl)).1,λf r' e=>(uA h e).2⟩
 ·rename_i ty t' lo hi N a
  cases d
  unfold bR at h ⊢
  simp only[a,vc,xc,cond_false]at h ⊢
  exact⟨(Aa h (λ_ _ _=>rfl)).1,λf r' e=>(Aa h e).2⟩
 ·rename_i src dst t' a
  split at d
  ·cases d
  ·rename_i v
   cases d
   unfold bR at h ⊢
   simp only[a]at h ⊢
   have j:cI E.P dst=false:=by simpa using v
   exact⟨(wL (r':=r) j h (λ_ _ _=>rfl)).1,λf r' e=>(wL j h e).2⟩
 ·rename_i ty t' k ok a
  cases d
  unfold bR at h ⊢
  simp only[a]at h ⊢
  exact⟨(ye h (λ_ _ _=>rfl)).1,λf r' e=>(ye h e).2⟩
 ·rename_i c a
  split at d
  ·rename_i J
   split at d
   ·rename_i t' l
    cases d
    unfold bR at h ⊢
    simp only[a,l,J,kI,Em,aq,od,o9,dF]at h ⊢
    cases z:bZ tm t with
    | mp q=>
     rw[z]at h
     simp only[cW]at h ⊢
     obtain⟨K,h⟩:=HS.1 h
     simp only[if_neg K]
     refine⟨?_,λf r' e=>?_⟩
     ·unfold vR at h
      split at h
      ·cases h;rfl
      ·cases h
     ·unfold vR at h ⊢
      split at h
      ·rename_i p m L s
       have y:kN f q=some m:=by
        unfold kN at s ⊢
        cases u:g q with
        | none=>rw[u]at s;simp at s
        | some b=>rw[u]at s;rw[rr e rfl u];exact s
       simp only[L,y]
       exact h
      ·cases h
    | _=>
     rw[z]at h
     simp only[cW]at h ⊢
     refine⟨?_,λf r' e=>h⟩
     unfold De at h
     (repeat' split at h)<;>(try simp_all)<;>(try (obtain⟨_,_,_,h⟩:=h;exact h))<;>(try (obtain⟨n,_,h⟩:=fD.1 h;simp at h;exact h.2))
   ·cases d
  ·cases d
 ·cases d
end
section
section
variable{E:Env}{o:Oper}
theorem CP(h:cls E o=0):sf E o=false:=by
 unfold cls at h
 cases a:sf E o with
 | false=>rfl
 | true=>rw[a]at h;simp only[if_true]at h;(repeat' split at h)<;>omega
theorem Fq(h:cls E o=1) : ∃t,wP E.P o.op=some t/\kj E o=some t/\gj E o=false:=by
 unfold cls at h
 split at h
 ·split at h
  ·cases h
  ·rename_i e
   split at h
   ·rename_i f
    obtain⟨t,b⟩:=fO.1 f
    refine⟨t,b,?_,?_⟩
    ·have:storeT o.op=none:=by simpa using e
     simp[kj,this,b]
    ·unfold gj
     have:Sc E o.op=false/\wi o.op=false:=by
      unfold wP at b
      split at b<;>(try (rename_i a;rw[a];exact⟨rfl,rfl⟩))
      ·rename_i c a
       split at b
       ·rename_i d
        rw[a]
        simp[Sc,wi,d]
       ·cases b
      cases b
     rw[this.1,this.2];simp
   ·split at h<;>cases h
 ·cases h
theorem Kq(h:cls E o=2) : ∃ty t x,o.op = .store ty (.tmp t) x/\kj E o=some t:=by
 unfold cls at h
 split at h
 ·split at h
  ·rename_i d
   obtain⟨t,a⟩:=fO.1 d
   have c:=a
   unfold storeT at a
   split at a
   ·rename_i ty t' x b
    cases a
    exact⟨ty,t,x,b,by simp[kj,c]⟩
   ·cases a
  ·(repeat' split at h)<;>cases h
 ·cases h
theorem vY(h:cls E o=3):sf E o=true/\gj E o=false:=by
 unfold cls at h
 split at h
 ·rename_i b
  split at h
  ·cases h
  ·split at h
   ·cases h
   ·split at h
    ·cases h
    ·rename_i a;exact⟨b,by simpa using a⟩
 ·cases h
theorem Hl(h:cls E o=4):kj E o=if wi o.op then R6 o.op else BH o.op:=by
 unfold cls at h
 split at h
 ·split at h
  ·cases h
  ·rename_i c
   split at h
   ·cases h
   ·rename_i d
    have a:storeT o.op=none:=by simpa using c
    have b:wP E.P o.op=none:=by simpa using d
    simp[kj,a,b]
 ·cases h
end
theorem Gr{E:Env}{o:Oper}(h:mR E o=true) : ∃c g,o.op = .call c/\c.callee = .value (.func g)/\E.mode g=2/\E.fN o=true/\E.strict o=false:=by
 unfold mR at h
 rw[aY,aY]at h
 obtain⟨⟨e,f⟩,a⟩:=h
 split at a
 ·rename_i c b
  split at a
  ·rename_i g d
   exact⟨c,g,b,d,by simpa using a,e,by simpa using f⟩
  ·cases a
 ·cases a
theorem Ld{E:Env}{o:Oper}(h:mR E o=true):cls E o=4/\kj E o=none:=by
 obtain⟨c,g,a,b,hm,n,j⟩:=Gr h
 have f:storeT o.op=none:=by rw[a];rfl
 have e:wP E.P o.op=none:=by rw[a];simp[wP,b]
 have p:iz o.op=true:=by rw[a];simp[iz,b]
 have d:gj E o=true:=by simp[gj,j,a,Sc,b,hm]
 have k:BH o.op=none:=by rw[a];simp[BH,Ly,CW,b]
 have m:wi o.op=false:=by rw[a];rfl
 refine⟨?_,?_⟩
 ·have l:sf E o=true:=fA d
  simp[cls,f,e,l,d]
 ·simp[kj,f,e,k,m]
theorem oE{E:Env}{o:Oper}{t:Tmp}(h:kj E o=some t):mR E o=false:=by
 cases a:mR E o with
 | false=>rfl
 | true=>rw[(Ld a).2]at h;cases h
theorem NW{E:Env}{pc:FuncId->List AV->Option AV}{tc:pY->List AV->ab->cb}{H g:ab}{tm:List AV}{r:Ref}{o:Oper}{t:Tmp}(f:Ly o.op=some t){x:AV}(h:evalW E pc tc H tm r o=some (x,g)) :
 ∃q a b,iY (bZ tm t)=some q/\kN H.get q=some a/\g=H.put q (some (ml b)):=by
 have j : ∀ {ty:TypeId} {m:AV} {k v:Option AV} {y:AV} {g:ab},gm E.P H ty (some m) k v=some (y,g) ->∃q a b,iY m=some q/\kN H.get q=some a/\g=H.put q (some (ml b)):=by
  intro ty m k v y g h
  unfold gm at h
  split at h
  ·rename_i u z q k' p l d
   simp only[dc]at d
   subst d
   split at h
   ·rename_i K a J e
    split at h
    ·split at h
     ·split at h
      ·cases h;exact⟨q,a,_,rfl,e,rfl⟩
      ·cases h
     ·cases h;exact⟨q,a,_,rfl,e,rfl⟩
     ·cases h
    ·cases h
   ·cases h
  ·cases h
 unfold Ly at f
 split at f
 ·rename_i c
  cases f
  unfold evalW at h
  simp only[c,aq]at h
  exact j h
 ·rename_i c
  cases f
  unfold evalW at h
  simp only[c,aq]at h
  exact j h
 ·rename_i ty t' k c
  cases f
  unfold evalW at h
  simp only[c,aq]at h
  unfold mW at h
  split at h
  ·rename_i u z q k' l d s
   split at h
   ·rename_i K a J e
    split at h
    ·split at h
     ·split at h
      ·simp only[aZ]at h
       obtain⟨v,_,h⟩:=h
       cases h
       simp only[dc]at d
       exact⟨q,a,_,by rw[d];rfl,e,rfl⟩
      ·cases h
     ·simp only[aZ]at h
      obtain⟨v,_,h⟩:=h
      cases h
      simp only[dc]at d
      exact⟨q,a,_,by rw[d];rfl,e,rfl⟩
     ·cases h
    ·cases h
   ·cases h
  ·cases h
 ·rename_i k t' m p c
  cases f
  unfold evalW at h
  simp only[c,aq]at h
  unfold jj at h
  split at h
  ·rename_i q N n L l d s
   split at h
   ·rename_i a e
    split at h
    ·split at h
     ·cases h
      simp only[dc]at l
      exact⟨q,a,_,by rw[l];rfl,e,rfl⟩
     ·cases h
    ·cases h
   ·cases h
  ·cases h
 ·cases f
theorem Lz{g:cf}{r:Ref}{a:List AV}(h:kN g r=some a) : ∃b,g r=some b/\b.arr=false:=by
 unfold kN at h
 split at h
 ·rename_i e;exact⟨_,e,rfl⟩
 ·cases h
theorem ti.map{H:ab}{r:Ref}{b a:List AV}(j:kN H.get r=some b):ti H (H.put r (some (ml a))):=by
 obtain⟨b0,f,g⟩:=Lz j
 refine⟨λd t=>?_,λq h=>?_,λq b1 b' h k c=>?_⟩
 ·rw[ab.fp _ _ _ (by rw[f];rfl)];exact aW _
 ·rw[ab.aj]at h
  split at h
  ·rename_i e;subst e;exact .inl (by rw[f];simp)
  ·exact .inl h
 ·rw[ab.aj]at c
  split at c
  ·rename_i e;subst e
   cases c
   rw[f]at h;cases h
   rw[g];rfl
  ·rw[h]at c;cases c;rfl
theorem OR{E:Env}{pc:FuncId->List AV->Option AV}{tc:pY->List AV->ab->cb}{H g:ab}{tm:List AV}{r:Ref}{o:Oper}{t:Tmp}(a:CW o.op=some t){x:AV}(h:evalW E pc tc H tm r o=some (x,g)) :
 ∃k n y z,iY y=iY (bZ tm t)/\gT E.P H k n y z=some (x,g):=by
 unfold CW at a
 split at a
 ·rename_i c d
  split at a
  ·rename_i m
   split at a
   ·rename_i t' rest b
    cases a
    unfold evalW at h
    simp only[d,m,b]at h
    cases hm:List.mapM (aq tm) (Operand.tmp t :: rest) with
    | none=>rw[hm]at h;simp at h
    | some args=>
     rw[hm]at h
     simp only[kI,aq,od,o9,dF,fD]at hm
     obtain⟨l,a,e⟩:=hm
     simp at e
     subst e
     simp only at h
     split at h
     ·rename_i s y j f
      cases f
      exact⟨_,_,_,_,rfl,h⟩
     ·rename_i j f;cases j
     ·cases h
   ·cases a
  ·cases a
 ·cases a
theorem HU{P:Program}{H f:ab}{t:TypeId}{a x:Option AV}{y:AV}(h:iu P H t a x=some (y,f))(d k:Nat):f.gen d k=H.gen d k:=by
 unfold iu at h
 split at h
 ·split at h
  ·rename_i r' i j u n _ b g
   obtain⟨⟨l,s,p⟩,h⟩:=dG.1 h
   split at h
   ·split at h
    ·rename_i v q
     split at h
     ·cases h
     ·rename_i c
      obtain⟨m,h⟩:=dG.1 h
      simp only[aZ]at h
      obtain⟨es',e,h⟩:=h
      cases h
      rw[ab.fp _ _ _ (by rw[ab.cB];unfold pI;rw[if_neg c,g];rfl),ab.fB]
    ·cases h
   ·simp only[aZ]at h
    obtain⟨es',e,h⟩:=h
    cases h
    rw[ab.fp _ _ _ (by rw[g];rfl)]
  ·cases h
 ·cases h
theorem Ga{P:Program}{M:Mem}{ι:Map}{g:cf}{w:World}(s:eW M ι g w){t:TypeId}{n:Nat}(O:av P t=some n){r:Ref}{i j:Nat}{x:AV}{q a:Value}(R:VR M ι (.ptr r i j) q)(z:VR M ι x a)
 {b:aJ} (v:g r=some b) (Q:x.cells.length=n) (p:x.cells.all AV.one=true) (m:b.fN=false) (d:b.arr=false) {es':List AV} (k:fE b.es i j x.cells=some es') :
 ∃w',(Instr.storeAt t q a).run P w = .ok () w'/\eW M ι (jx g r { b with es:=es'}) w'/\pN M ι g w M ι (jx g r { b with es:=es'}) w':=by
 cases R with | ptr u e=>
 rename_i l
 have h:=s.at u e v
 have c:=z.cells
 have f:a.cells.size=n:=by have:=c.1;simp at this;omega
 obtain⟨arr,T,fz,y,S,L,N,K,J⟩:=Bm s v u e m k p (us:=a.cells.toList) (by rw[aJ.map,if_neg (by simp[d])];exact c)
 refine⟨bA w l.b (.cells (bQ arr (i * b.esz+j) a.cells.toList) T fz),?_,K,J⟩
 rw[h.esz]
 exact vi O f y S L N
section
variable{E:Env}{pc:FuncId->List AV->Option AV}{tc:pY->List AV->ab->cb}{nt dep:Nat}{ops:Array Oper}{sts:Nat->St}
variable(C:TY E ops)(A : ∀i o,ops[i]?=some o->evalOp E pc tc nt dep true ops o (sts i)=some (sts (i+1)))
abbrev makes(sts:Nat->St)(j:Nat)(q:Ref):Prop:=Made (sts j).hp (sts (j+1)).hp q
abbrev turns(sts:Nat->St)(j:Nat)(q:Ref):Prop:=(sts (j+1)).hp.get q≠(sts j).hp.get q
theorem PB{o:Oper}{st b:St}{t:Tmp}(a:R6 o.op=some t)(h:evalOp E pc tc nt dep true ops o st=some b) :
 b.hp=st.hp\/(∃bs,b.hp=keyed ⟨dep,o.dst.getD 0,st.hp.gen dep (o.dst.getD 0),0⟩ 0 bs st.hp) \/∃c n i x,iM E.P st.hp ⟨dep,o.dst.getD 0,st.hp.gen dep (o.dst.getD 0),0⟩ c n (some [(i,bZ st.tm t)])=some (x,b.hp):=by
 unfold evalOp at h
 split at h
 ·cases h
 ·simp only[aZ]at h
  obtain⟨tm',f,rfl⟩:=h
  exact .inl rfl
 ·split at h
  ·rename_i x bs j
   simp only[aZ]at h
   obtain⟨tm',f,rfl⟩:=h
   exact .inr (.inl ⟨bs,rfl⟩)
  ·split at h
   ·cases h
   ·split at h
    ·rename_i x H d
     simp only[aZ]at h
     obtain⟨tm',f,rfl⟩:=h
     unfold R6 at a
     split at a
     ·rename_i c n ps g
      split at a
      ·rename_i i t' e
       cases a
       unfold evalW at d
       simp only[g,e]at d
       exact .inr (.inr ⟨c,n,i,x,d⟩)
      ·cases a
     ·cases a
    ·cases h
theorem vK{o:Oper}{st c:St}(a:cls E o=0\/cls E o=1)(h:evalOp E pc tc nt dep true ops o st=some c):c.hp=st.hp:=by
 rcases lD h with ⟨_,tm',d,he⟩ | ⟨_,x,bs,e,tm',d,he⟩ | b
 ·rw[he]
 ·rw[he]
  rcases a with a | a
  ·rw[(sR (CP a) e).1];rfl
  ·obtain⟨t,d,_,_⟩:=Fq a
   rw[(GL d e).1];rfl
 ·rcases a with a | a
  ·have:=CP a;rw[fA b]at this;cases this
  ·obtain⟨t,d,_,hw⟩:=Fq a
   rw[hw]at b;cases b
theorem BQ{o:Oper}{st a:St}{ty:TypeId}{t:Tmp}{d:Operand}(b:o.op = .store ty (.tmp t) d)(h:evalOp E pc tc nt dep true ops o st=some a)(e:wanted ops st.tm o=some true) :
 ∃y,iu E.P st.hp ty (some (bZ st.tm t)) (aq st.tm d)=some (y,a.hp)/\ct nt st.tm o.dst y=some a.tm:=by
 unfold evalOp at h
 rw[e]at h
 have g:bR E pc true st.hp.get st.tm ⟨dep,o.dst.getD 0,st.hp.gen dep (o.dst.getD 0),0⟩ o=none:=by unfold bR;simp only[b]
 rw[g]at h
 simp only at h
 split at h
 ·cases h
 ·split at h
  ·rename_i x H c
   simp only[aZ]at h
   obtain⟨tm',f,rfl⟩:=h
   unfold evalW at c
   simp only[b]at c
   exact⟨x,c,f⟩
  ·cases h
theorem step_map{o:Oper}{st a:St}{t:Tmp}(d:Ly o.op=some t)(h:evalOp E pc tc nt dep true ops o st=some a) :
 a.hp=st.hp\/(∃bs,a.hp=keyed ⟨dep,o.dst.getD 0,st.hp.gen dep (o.dst.getD 0),0⟩ 0 bs st.hp) \/∃q c b,iY (bZ st.tm t)=some q/\kN st.hp.get q=some c/\a.hp=st.hp.put q (some (ml b)):=by
 unfold evalOp at h
 split at h
 ·cases h
 ·simp only[aZ]at h
  obtain⟨tm',e,rfl⟩:=h
  exact .inl rfl
 ·split at h
  ·rename_i x bs g
   simp only[aZ]at h
   obtain⟨tm',e,rfl⟩:=h
   exact .inr (.inl ⟨bs,rfl⟩)
  ·split at h
   ·cases h
   ·split at h
    ·rename_i x H f
     simp only[aZ]at h
     obtain⟨tm',e,rfl⟩:=h
     exact .inr (.inr (NW d f))
    ·cases h
theorem KS{o:Oper}{st d:St}(j:mR E o=true)(h:evalOp E pc tc nt dep true ops o st=some d):d.hp=st.hp:=by
 obtain⟨c,g,e,f,hm,l,n⟩:=Gr j
 unfold evalOp at h
 split at h
 ·cases h
 ·simp only[aZ]at h
  obtain⟨tm',k,rfl⟩:=h
  rfl
 ·split at h
  ·rename_i x bs b
   exfalso
   unfold bR at b
   simp only[e,f]at b
   split at b
   ·cases b
   ·simp only[tN,aq,iZ,hm,if_true,zR]at b
    cases b
  ·split at h
   ·cases h
   ·split at h
    ·rename_i x H a
     simp only[aZ]at h
     obtain⟨tm',k,rfl⟩:=h
     unfold evalW at a
     simp only[e,f]at a
     split at a
     ·cases a
     ·rw[l]at a
      cases hw:kK E pc tc st.hp ⟨dep,o.dst.getD 0,st.hp.gen dep (o.dst.getD 0),0⟩ (aq st.tm (.func g)) _ with
      | none=>rw[hw]at a;simp[oe]at a
      | some p=>
       obtain⟨y,m⟩:=p
       rw[hw]at a
       unfold oe at a
       simp only at a
       split at a
       ·cases a;rfl
       ·cases a
    ·cases h
theorem MJ{o:Oper}{st a:St}{t:Tmp}(b:CW o.op=some t)(h:evalOp E pc tc nt dep true ops o st=some a) :
 a.hp=st.hp\/(∃bs,a.hp=keyed ⟨dep,o.dst.getD 0,st.hp.gen dep (o.dst.getD 0),0⟩ 0 bs st.hp) \/∃c d y z x,iY y=iY (bZ st.tm t)/\gT E.P st.hp c d y z=some (x,a.hp):=by
 unfold evalOp at h
 split at h
 ·cases h
 ·simp only[aZ]at h
  obtain⟨tm',e,rfl⟩:=h
  exact .inl rfl
 ·split at h
  ·rename_i x bs k
   simp only[aZ]at h
   obtain⟨tm',e,rfl⟩:=h
   exact .inr (.inl ⟨bs,rfl⟩)
  ·split at h
   ·cases h
   ·split at h
    ·rename_i x H g
     simp only[aZ]at h
     obtain⟨tm',e,rfl⟩:=h
     obtain⟨c,d,y,z,j,f⟩:=OR b g
     exact .inr (.inr ⟨c,d,y,z,x,j,f⟩)
    ·cases h
theorem Cz{H:ab}{d t:Nat}{bs:List aJ}{q:Ref}(h:(keyed ⟨d,t,H.gen d t,0⟩ 0 bs H).get q≠H.get q):Made H (keyed ⟨d,t,H.gen d t,0⟩ 0 bs H) q:=by
 rw[ab.kF]at h
 unfold oQ at h
 split at h
 ·rename_i g
  obtain⟨c,f,a,b⟩:=g
  refine⟨?_,?_⟩
  ·rw[c,f,a];exact aW _
  ·rw[ab.jV,if_pos ⟨c,f,by intro e;rw[e]at b;simp at b⟩,a];exact nD _
 ·exact absurd rfl h
include A in
theorem EU{i n:Nat}(a:i<=n)(c:n<=ops.size){t:Tmp}(d : ∀k,gx ops k=some t->k<i):bZ (sts n).tm t=bZ (sts i).tm t:=by
 induction n with
 | zero=>rw[AY.1 a]
 | succ n g=>
  rcases dH n i with h | h
  ·rw[show i=n+1 by omega]
  ·have b:=ir (show n<ops.size from c)
   obtain⟨x,f⟩:=Gc (A n _ b)
   rw[rp f,if_neg,g h (by omega)]
   intro e
   have:=d n (by simp[gx,b,e])
   omega
variable(B:ops.toList.all (CT E (sts ops.size))=true)
include C A B
theorem BL{i:Nat}{o:Oper}(O:ops[i]?=some o):ti (sts i).hp (sts (i+1)).hp/\(cls E o<3 ->∀d t,(sts (i+1)).hp.gen d t=(sts i).hp.gen d t) /\
 (cls E o≠2 ->∀q,turns sts i q->makes sts i q\/cls E o=4 /\∃t,kj E o=some t/\iY (bZ (sts i).tm t)=some q):=by
 have h:=A i o O
 have Zt:=zL E o
 have S:cls E o=0\/cls E o=1\/cls E o=2\/cls E o=3\/cls E o=4:=by omega
 have same:(sts (i+1)).hp=(sts i).hp->ti (sts i).hp (sts (i+1)).hp/\(cls E o<3 ->∀d t,(sts (i+1)).hp.gen d t=(sts i).hp.gen d t) /\
  (cls E o≠2 ->∀q,turns sts i q->makes sts i q\/cls E o=4 /\∃t,kj E o=some t/\iY (bZ (sts i).tm t)=some q):=by
  intro e
  refine⟨by rw[e];exact ti.refl _,λ_ d t=>by rw[e],λ_ q f=>?_⟩
  unfold turns at f
  rw[e]at f
  exact absurd rfl f
 rcases S with a | a | a | a | a
 ·exact same (vK (.inl a) h)
 ·exact same (vK (.inr a) h)
 ·obtain⟨ty,t,x,Q,hs⟩:=Kq a
  cases u:wanted ops (sts i).tm o with
  | none=>unfold evalOp at h;rw[u]at h;cases h
  | some b=>
   cases b with
   | false=>
    unfold evalOp at h;rw[u]at h
    simp only[aZ]at h
    obtain⟨tm',_,e⟩:=h
    exact same (by rw[<-e])
   | true=>
    obtain⟨y,Z,_⟩:=BQ Q h u
    exact⟨FQ Z,λ_ d t=>HU Z d t,λhn=>absurd a hn⟩
 ·have U:=(vY a).2
  rcases lD h with ⟨_,tm',l,he⟩ | ⟨_,x,bs,f,tm',l,he⟩ | p
  ·exact same (by rw[he])
  ·have e:(sts (i+1)).hp=keyed ⟨dep,o.dst.getD 0,(sts i).hp.gen dep (o.dst.getD 0),0⟩ 0 bs (sts i).hp:=by rw[he]
   refine⟨by rw[e];exact ti.keyed _ _ _ _,λm=>by omega,λ_ q f => .inl ?_⟩
   unfold turns at f
   unfold makes
   rw[e]at f ⊢
   exact Cz f
  ·rw[U]at p;cases p
 ·cases N:mR E o with
  | true=>exact same (KS N h)
  | false=>
  obtain⟨t,l,V⟩:=C.stay i o O (by omega) (by omega) N
  have R : ∀bs,(sts (i+1)).hp=keyed ⟨dep,o.dst.getD 0,(sts i).hp.gen dep (o.dst.getD 0),0⟩ 0 bs (sts i).hp->ti (sts i).hp (sts (i+1)).hp/\(cls E o<3 ->∀d t,(sts (i+1)).hp.gen d t=(sts i).hp.gen d t) /\
   (cls E o≠2 ->∀q,turns sts i q->makes sts i q\/cls E o=4 /\∃t,kj E o=some t/\iY (bZ (sts i).tm t)=some q):=by
   intro bs e
   refine⟨by rw[e];exact ti.keyed _ _ _ _,λm=>by omega,λ_ q f => .inl ?_⟩
   unfold turns at f
   unfold makes
   rw[e]at f ⊢
   exact Cz f
  cases K:wi o.op with
  | false=>
   have j:BH o.op=some t:=by rw[Hl a,K]at l;simpa using l
   cases s:Ly o.op with
   | some t'=>
    have e':t'=t:=by unfold BH at j;rw[s]at j;simpa using j
    subst e'
    rcases step_map s h with e | ⟨bs,e⟩ | ⟨q,Zs,W,f,hm,e⟩
    ·exact same e
    ·exact R bs e
    ·refine⟨by rw[e];exact ti.map hm,λm=>by omega,λ_ q' g => .inr ⟨a,t',l,?_⟩⟩
     unfold turns at g
     rw[e,ab.aj]at g
     split at g
     ·rename_i e2;subst e2;exact f
     ·exact absurd rfl g
   | none=>
   have G:CW o.op=some t:=by unfold BH at j;rw[s]at j;exact j
   rcases MJ G h with e | ⟨bs,e⟩ | ⟨t1,t2,y,z,x,hy,T⟩
   ·exact same e
   ·exact R bs e
   ·obtain⟨hm,r,hr,f⟩:=EJ T
    refine⟨hm,λm=>by omega,λ_ q g=>?_⟩
    rcases f q g with k | k
    ·exact .inl k
    ·subst k;exact .inr ⟨a,t,l,by rw[<-hy];exact hr⟩
  | true=>
   have L:R6 o.op=some t:=by rw[Hl a,K]at l;simpa using l
   rcases PB L h with e | ⟨bs,e⟩ | ⟨t1,n,i',x,T⟩
   ·exact same e
   ·exact R bs e
   ·obtain⟨hm,f⟩:=ze T
    refine⟨hm,λm=>by omega,λ_ q g=>?_⟩
    rcases f q g with k | k
    ·exact .inl k
    ·refine .inr ⟨a,t,l,?_⟩
     have X:(E.fN o&&wi o.op)=true:=by
      have u:gj E o=true:=by
       unfold cls at a
       split at a
       ·split at a
        ·cases a
        ·split at a
         ·cases a
         ·split at a
          ·assumption
          ·cases a
       ·cases a
      unfold gj at u
      rcases Bc.1 u with J | J
      ·exfalso
       replace J:=(sk.1 J).2
       unfold wi at K
       split at K
       ·rename_i Y;rw[Y]at J;cases J
       ·cases K
      ·exact J
     have hi:i<ops.size:=(fP.1 O).1
     have c:=da.1 B o (eY (i:=i) (by simpa using O))
     unfold CT at c
     rw[X,L]at c
     simp only[vc,tl]at c
     rw[EU A (gh hi) (aW ops.size) V]at c
     simp only[tk,List.map_nil,ba,kZ,y8,pQ]at k
     revert c k
     generalize bZ (sts i).tm t=v
     intro c k
     cases v with
     | bD r off len cap=>simp only[ad,depth,pT]at k;rw[k];rfl
     | v y=>simp[ad,depth]at k
     | _=>cases c
theorem og{i n:Nat}(a:i<=n)(b:n<=ops.size)(d t:Nat):(sts i).hp.gen d t<=(sts n).hp.gen d t:=by
 induction n with
 | zero=>rw[AY.1 a];exact aW _
 | succ n c=>
  rcases dH n i with h | h
  ·rw[show i=n+1 by omega];exact aW _
  ·exact rk (c h (by omega)) ((BL C A B (ir (show n<ops.size from b))).1.gen d t)
theorem Ig{M:Mem}{ι:Map}{w:World}(D:eW M ι (sts 0).hp.get w)(F:o6 ι (sts 0).hp){n:Nat}(e:n<=ops.size) : ∀q,(sts n).hp.get q≠none->q.g<(sts n).hp.gen q.d q.t:=by
 induction n with
 | zero=>
  intro q h
  cases b:(sts 0).hp.get q with
  | none=>exact absurd b h
  | some k=>obtain⟨l,f,_⟩:=D.live q k b;exact F q l f
 | succ n j=>
  intro q h
  have c:=(BL C A B (ir (show n<ops.size from e))).1
  rcases c.born q h with a | a
  ·exact xN (j (by omega) q a) (c.gen _ _)
  ·exact a.2
theorem VK{M:Mem}{ι:Map}{w:World}(D:eW M ι (sts 0).hp.get w)(F:o6 ι (sts 0).hp){i:Nat}{r:Ref}{b:aJ}(c:(sts i).hp.get r=some b){n:Nat}(f:i<=n)(l:n<=ops.size) : ∀b',(sts n).hp.get r=some b'->b'.arr=b.arr:=by
 induction n with
 | zero=>intro b' h;rw[AY.1 f]at c;rw[c]at h;cases h;rfl
 | succ n p=>
  intro b' h
  rcases dH n i with m | a
  ·rw[show i=n+1 by omega]at c;rw[c]at h;cases h;rfl
  ·have j:=(BL C A B (ir (show n<ops.size from l))).1
   rcases j.born r (by rw[h];simp)with e | e
   ·cases g:(sts n).hp.get r with
    | none=>exact absurd g e
    | some k=>rw[j.arr r k b' g (Ig C A B D F (by omega) r e) h];exact p a (by omega) k g
   ·have q:=Ig C A B D F (show i<=ops.size by omega) r (by rw[c];simp)
    have s:=og C A B a (by omega) r.d r.t
    have:=e.1
    omega
theorem zy{j b:Nat}{q:Ref}(f:j<ops.size)(c:b<ops.size)(h:makes sts j q)(e:makes sts b q):j=b:=by
 rcases za j b with a | rfl | a
 ·have:=og C A B (show j+1<=b from a) (gh c) q.d q.t
  have:=h.2;have:=e.1
  omega
 ·rfl
 ·have:=og C A B (show b+1<=j from a) (gh f) q.d q.t
  have:=e.2;have:=h.1
  omega
theorem vm{j:Nat}{q:Ref}{o:Oper}(c:ops[j]?=some o)(h:makes sts j q):3<=cls E o:=by
 rcases dH (cls E o) 3 with b | a
 ·have:=(BL C A B c).2.1 b q.d q.t
  have e:=h.1;have f:=h.2
  omega
 ·exact a
variable{M:Mem}{ι:Map}{w:World}
variable(D:eW M ι (sts 0).hp.get w)(F:o6 ι (sts 0).hp)(G:(nQ E ops).all (z9 (sts ops.size).tm)=true)(I:ops.toList.all (sM (sts ops.size))=true)
include D F I
theorem JK{i:Nat}{o:Oper}(h:ops[i]?=some o)(T:cls E o=2)(L:wanted ops (sts i).tm o=some true) :
 ∃ty t j r k l b x n es',o.op = .store ty (.tmp t) j/\kj E o=some t/\bZ (sts i).tm t = .ptr r k l/\(sts i).hp.get r=some b/\b.arr=false/\b.fN=false/\aq (sts i).tm j=some x/\av E.P ty=some n /\
  x.cells.length=n/\x.cells.all AV.one=true/\fE b.es k l x.cells=some es'/\(sts (i+1)).hp=(sts i).hp.put r (some { b with es:=es'})/\ct nt (sts i).tm o.dst AV.undef=some (sts (i+1)).tm:=by
 have hi:i<ops.size:=(fP.1 h).1
 obtain⟨ty,t,j,f,v⟩:=Kq T
 obtain⟨y,c,S⟩:=BQ f (A i o h) L
 obtain⟨t',g,q⟩:=C.stay i o h (by omega) (by omega) (oE v)
 rw[v]at g;cases g
 have e:=EU A (gh hi) (aW ops.size) q
 have a:=da.1 I o (eY (i:=i) (by simpa using h))
 unfold sM at a
 rw[f]at a
 simp only[e]at a
 have V:=c
 unfold iu at c
 split at c
 ·rename_i r' k l O n z Q N
  simp only[dc]at z
  rw[z]at a
  simp only at a
  split at c
  ·rename_i b K
   obtain⟨⟨m,J,s⟩,c⟩:=dG.1 c
   have d:b.arr=false:=by
    split at a
    ·rename_i b' u
     rw[<-VK C A B D F K (gh hi) (aW _) b' u]
     simpa using a
    ·cases a
   rw[if_neg (by simp[d])]at c
   simp only[aZ]at c
   obtain⟨es',p,c⟩:=c
   injection c with U R
   subst U
   exact⟨ty,t,j,r',k,l,b,O,n,es',f,v,z,K,d,s,Q,N,m,J,p,R.symm,S⟩
  ·cases c
 ·cases c
theorem BK{j:Nat}{o:Oper}(a:ops[j]?=some o){q:Ref}(h:turns sts j q):makes sts j q\/(cls E o=2\/cls E o=4) /\∃t,kj E o=some t/\iY (bZ (sts j).tm t)=some q:=by
 by_cases c:cls E o=2
 ·cases hw:wanted ops (sts j).tm o with
  | none=>have:=A j o a;unfold evalOp at this;rw[hw]at this;cases this
  | some b=>
   cases b with
   | false=>
    have:=A j o a;unfold evalOp at this;rw[hw]at this
    simp only[aZ]at this
    obtain⟨tm',_,e⟩:=this
    unfold turns at h
    rw[<-e]at h
    exact absurd rfl h
   | true=>
    obtain⟨ty,t,m,r,p,s,b,x,n,es',g,k,l,u,_,_,_,_,_,_,_,he,_⟩:=JK C A B D F I a c hw
    refine .inr ⟨.inl c,t,k,?_⟩
    unfold turns at h
    rw[he,ab.aj]at h
    split at h
    ·rename_i e;subst e;rw[l];rfl
    ·exact absurd rfl h
 ·rcases(BL C A B a).2.2 c q h with d | ⟨d,f⟩
  ·exact .inl d
  ·exact .inr ⟨.inr d,f⟩
omit A D F I C B in
theorem NK{L:Nat->Bool}(g:mV ops L){i:Nat}{o:Oper}(l:ops[i]?=some o)(hi:L i=false)(f : ∀e∈dP o,L e=true){j:Nat}{d:Oper}(b:ops[j]?=some d)
 (h:j<i->((cN ops.toList []).getD i 0).testBit j=true) (k:i<j->((cN ops.toList []).getD j 0).testBit i=true):(L j=true↔j<i):=by
 constructor
 ·intro c
  rcases za j i with a | rfl | a
  ·exact a
  ·rw[hi]at c;cases c
  ·have:=qQ g j d b (λe m=>g j d c b e m) i (k a)
   rw[hi]at this;cases this
 ·intro a
  exact qQ g i o l f j (h a)
omit D F I B in
include G in
theorem NJ{L:Nat->Bool}(T:mV ops L){i:Nat}{o:Oper}(s:ops[i]?=some o)(hi:L i=false)(J : ∀e∈dP o,L e=true)(d:cls E o=1\/cls E o=2){t:Tmp}(v:kj E o=some t){q:Ref}(x:iY (bZ (sts i).tm t)=some q)
 {j:Nat} {l:Oper} (k:ops[j]?=some l) (c:cls E l=2\/cls E l=4) {t':Tmp} (m:kj E l=some t') (n:iY (bZ (sts j).tm t')=some q):(L j=true↔j<i):=by
 have K:i<ops.size:=(fP.1 s).1
 have z:j<ops.size:=(fP.1 k).1
 obtain⟨t1,R,s1⟩:=C.stay i o s (by omega) (by omega) (oE v)
 obtain⟨t2,Q,s2⟩:=C.stay j l k (by omega) (by omega) (oE m)
 rw[v]at R;cases R
 rw[m]at Q;cases Q
 have V:=EU A (gh K) (aW ops.size) s1
 have S:=EU A (gh z) (aW ops.size) s2
 rw[<-V]at x
 rw[<-S]at n
 have U : ∀a b,kj E a=some t->kj E b=some t' ->¬(settled E ops a b=true):=by
  intro a b O N g
  unfold settled at g
  rw[O,N]at g
  simp only[jh,EC]at g
  have f:=da.1 G
  rcases g with g | g
  ·have:=f _ g
   unfold z9 at this
   simp only[x,n]at this
   simp at this
  ·have:=f _ g
   unfold z9 at this
   simp only[x,n]at this
   simp at this
 have y : ∀a b,kj E a=some t'->kj E b=some t ->¬(settled E ops a b=true):=by
  intro a b O N g
  unfold settled at g
  rw[O,N]at g
  simp only[jh,EC]at g
  have f:=da.1 G
  rcases g with g | g
  ·have:=f _ g
   unfold z9 at this
   simp only[x,n]at this
   simp at this
  ·have:=f _ g
   unfold z9 at this
   simp only[x,n]at this
   simp at this
 refine NK T s hi J k (λp=>?_) (λp=>?_)
 ·by_cases u:yn (cls E o) (cls E l)=true
  ·rcases C.meet i j o l s k p u (oE v) (oE m)with h | h
   ·exact h
   ·exact absurd h (U o l v m)
  ·refine C.must i j o l s k p ?_
   unfold nc blind
   rcases d with d | d<;>rcases c with c | c<;>rw[d,c]at u ⊢ <;> first | rfl | exact absurd rfl u
 ·by_cases u:yn (cls E l) (cls E o)=true
  ·rcases C.meet j i l o k s p u (oE m) (oE v)with h | h
   ·exact h
   ·exact absurd h (y l o m v)
  ·refine C.must j i l o k s p ?_
   unfold nc blind
   rcases d with d | d<;>rcases c with c | c<;>rw[d,c]at u ⊢ <;> first | rfl | exact absurd rfl u
omit A D F I B in
theorem pn{L:Nat->Bool}(s:mV ops L){i:Nat}{o:Oper}(p:ops[i]?=some o)(hi:L i=false)(m : ∀e∈dP o,L e=true)(u:3<=cls E o)
 {j:Nat} {d:Oper} (f:ops[j]?=some d) (l:blind E o=false\/cls E d≠2) (k:lR E o d=false/\lR E d o=false) (c:cls E d=2\/cls E d=4\/cls E o=4/\3<=cls E d):(L j=true↔j<i):=by
 have x:=zL E o
 have v:=zL E d
 have q:nc E o d=true/\nc E d o=true:=by
  unfold nc
  rw[k.1,k.2]
  have a:cls E o=3\/cls E o=4:=by omega
  rcases c with c | c | ⟨n,c⟩
  ·have t:=l.resolve_right (λh=>h c)
   rcases a with a | a<;>rw[a,c,t]<;>exact⟨rfl,rfl⟩
  ·rcases a with a | a<;>rw[a,c]<;>simp
  ·have b:cls E d=3\/cls E d=4:=by omega
   rcases b with b | b<;>rw[n,b]<;>simp
 exact NK s p hi m f (λg=>C.must i j o d p f g q.1) (λg=>C.must j i d o f p g q.2)
end
end
section
section
variable{E:Env}{pc:FuncId->List AV->Option AV}{tc:pY->List AV->ab->cb}{nt dep:Nat}{ops:Array Oper}{sts:Nat->St}
variable(C:TY E ops)(A : ∀i o,ops[i]?=some o->evalOp E pc tc nt dep true ops o (sts i)=some (sts (i+1)))
variable{M:Mem}{ι:Map}{w:World}{ds:List Deferred}
structure O3 (E:Env) (ops:Array Oper) (sts:Nat->St) (M:Mem) (ι:Map) (w:World) (L:Nat->Bool) (M1:Mem) (ι1:Map) (g1:cf) (c:Nat) (w1:World):Prop where
 sim:eW M1 ι1 g1 w1
 fwd:pN M ι (sts 0).hp.get w M1 ι1 g1 w1
 le:c<=ops.size
 cut : ∀j o,j<c->ops[j]?=some o->3<=cls E o->L j=true
 hand : ∀q,ι1 q≠none->q.g<(sts c).hp.gen q.d q.t \/∃j,j<ops.size/\L j=true/\c<=j/\makes sts j q
 get : ∀q,∃n,n<=ops.size/\g1 q=(sts n).hp.get q /\∀j,j<ops.size->turns sts j q->(L j=true↔j<n)
structure O4 (E:Env) (nt:Nat) (ops:Array Oper) (sts:Nat->St) (M:Mem) (ι:Map) (w:World) (ds:List Deferred) (L:Nat->Bool) (a1:Act) (w1:World):Prop where
 closed:mV ops L
 defers:a1.defers=ds
 at_ : ∃M1 ι1 tm1 g1 c,TS ops sts L tm1/\TR M1 ι1 tm1 a1/\a1.tmps.size=nt/\O3 E ops sts M ι w L M1 ι1 g1 c w1
theorem wI{a b:Nat}{q:Ref}(h:a<=b)(c : ∀j,a<=j->j<b ->¬turns sts j q):(sts b).hp.get q=(sts a).hp.get q:=by
 induction b with
 | zero=>rw[AY.1 h]
 | succ b e=>
  rcases dH b a with g | d
  ·rw[show a=b+1 by omega]
  ·have:=c b d (nD b)
   unfold turns at this
   rw[rm.1 this]
   exact e d λj f k=>c j f (by omega)
theorem O3.Hu{L:Nat->Bool}{s:Mem}{g:Map}{m:cf}{c:Nat}{p:World}(h:O3 E ops sts M ι w L s g m c p){q:Ref}{i:Nat}(hi:i<=ops.size)(l : ∀j,j<ops.size->turns sts j q->(L j=true↔j<i)):m q=(sts i).hp.get q:=by
 obtain⟨n,u,e,k⟩:=h.get q
 rw[e]
 rcases Nat.le_total n i with hle | hle
 ·exact(wI hle λj t f d=>by
   have a:=k j (by omega) d
   have b:=l j (by omega) d
   have:=a.1 (b.2 f)
   omega).symm
 ·exact wI hle λj t f d=>by
   have a:=k j (by omega) d
   have b:=l j (by omega) d
   have:=b.1 (a.2 f)
   omega
variable(B:ops.toList.all (CT E (sts ops.size))=true)
include C A B
theorem yr{L:Nat->Bool}{v:Mem}{b:Map}{z:cf}{c:Nat}{u:World}(D:eW M ι (sts 0).hp.get w)(F:o6 ι (sts 0).hp)(h:O3 E ops sts M ι w L v b z c u){i:Nat}(l:i<ops.size)(hi:L i=false){q:Ref}
 (y:(sts i).hp.get q≠none) (x:b q≠none) {j:Nat} (a:j<ops.size) (k:makes sts j q):(L j=true↔j<i):=by
 constructor
 ·intro f
  rcases dH j i with e | m
  ·exact e
  ·have J:=Ig C A B D F (gh l) q y
   have g:=og C A B m (gh a) q.d q.t
   have:=k.1
   omega
 ·intro e
  rcases h.hand q x with J | ⟨K,p,f,_,s⟩
  ·have n:j<c:=by
    rcases dH j c with g | g
    ·exact g
    ·have:=og C A B g (gh a) q.d q.t
     have:=k.1
     omega
   exact h.cut j _ n (ir a) (vm C A B (ir a) k)
  ·rw[zy C A B a p k s];exact f
variable(D:eW M ι (sts 0).hp.get w)(F:o6 ι (sts 0).hp)(G:(nQ E ops).all (z9 (sts ops.size).tm)=true)(I:ops.toList.all (sM (sts ops.size))=true)
include D F G I
theorem DG{L:Nat->Bool}(x:mV ops L){y:Mem}{b:Map}{u:cf}{c:Nat}{v:World}(h:O3 E ops sts M ι w L y b u c v){i:Nat}{o:Oper}(s:ops[i]?=some o)(hi:L i=false)(l : ∀e∈dP o,L e=true)
 (n:cls E o=1\/cls E o=2) {t:Tmp} (K:kj E o=some t) {q:Ref} (N:iY (bZ (sts i).tm t)=some q) (a:(sts i).hp.get q≠none) (z:b q≠none) :
 u q=(sts i).hp.get q /\∀j,j<ops.size->turns sts j q->(L j=true↔j<i):=by
 have f:i<ops.size:=(fP.1 s).1
 have key : ∀j,j<ops.size->turns sts j q->(L j=true↔j<i):=by
  intro j p J
  have d:=ir p
  rcases BK C A B D F I d J with hm | ⟨k,t',m,g⟩
  ·exact yr C A B D F h f hi a z p hm
  ·exact NJ C A G x s hi l n K N d k m g
 exact⟨h.Hu (gh f) key,key⟩
theorem LA(hpc : ∀f xs y,pc f xs=some y->fV E.P f xs y)(htc : ∀f xs H y H',tc f xs H=some (y,H')->lL E.P f xs H y H'){ro:Option Nat}{Q:Exit->Act->World->Prop}
 {L L':Nat->Bool} {i:Nat} {o:Oper} (ho:ops[i]?=some o) (hi:L i=false) (Zx : ∀e∈dP o,L e=true)
 (O : ∀j,L' j=true↔(L j=true\/j=i)) {a1:Act} {w1:World} (hI:O4 E nt ops sts M ι w ds L a1 w1) {K:Act->World->Prop} (hK : ∀a' w',O4 E nt ops sts M ι w ds L' a' w'->K a' w') :
 if Region.wanted o (yielded ops a1.tmps) then o.wpIn (FW ro) 0 E.P a1 w1 K Q else K (a1.put o.dst undef) w1:=by
 obtain⟨hc,hds,M1,X,tm1,g1,c,ZW,V,ZX,S⟩:=hI
 have N:i<ops.size:=(fP.1 ho).1
 have hc':mV ops L':=mV.next hc ho Zx O
 have ZE : ∀t∈o.looksAt ops,bZ tm1 t=bZ (sts i).tm t:=λt ht=>Cd C.toRegB A hc ho hi Zx ZW ht
 have ZV:=vw ZE
 have hwd:=tp ZE
 have step:=A i o ho
 have hle4:=zL E o
 have fin : ∀(u:Value)(x:AV)(R:List AV)(w':World)(M':Mem)(Zw:Map),(sts (i+1)).hp=(sts i).hp->ct nt (sts i).tm o.dst x=some (sts (i+1)).tm->ct nt tm1 o.dst x=some R ->
  TR M' Zw R (a1.put o.dst u)->(a1.put o.dst u).tmps.size=nt->eW M' Zw g1 w'->pN M1 X g1 w1 M' Zw g1 w'->(∀q,Zw q≠none->X q≠none)->O4 E nt ops sts M ι w ds L' (a1.put o.dst u) w':=by
  intro u x R w' M' Zw ZA hx Y htr hn Z2 Zz hι
  refine⟨hc',(fF _ _ _).trans hds,M',Zw,R,g1,c,qe C.toRegB ho O hi ZW hx Y,htr,hn,Z2,S.fwd.trans Zz,S.le,λj oj hj s Zu=>(O j).2 (.inl (S.cut j oj hj s Zu)),λq hq=>?_,λq=>?_⟩
  ·rcases S.hand q (hι q hq)with h | ⟨j,h1,h2,h3,h4⟩
   ·exact .inl h
   ·exact .inr ⟨j,h1,(O j).2 (.inl h2),h3,h4⟩
  ·obtain⟨n,h1,h2,h3⟩:=S.get q
   refine⟨n,h1,h2,λj hj hT=>?_⟩
   have J:j≠i:=by intro e;subst e;exact hT (by rw[ZA])
   rw[<-h3 j hj hT,O j]
   simp[J]
 have ZT : ∀k:Nat,X { (⟨dep+1,0,(sts ops.size).hp.gen (dep+1) 0,0⟩:Ref)with k:=k}=none:=by
  intro k
  cases hq:X { (⟨dep+1,0,(sts ops.size).hp.gen (dep+1) 0,0⟩:Ref)with k:=k} with
  | none=>rfl
  | some l=>
   exfalso
   rcases S.hand _ (by rw[hq];simp)with h | ⟨j,h1,_,_,h4⟩
   ·have:=og C A B S.le (aW _) (dep+1) 0
    simp only at h
    omega
   ·have:=og C A B (show j+1<=ops.size from h1) (aW _) (dep+1) 0
    have:=h4.2
    simp only at this
    omega
 have quiet : ∀ {x:AV} {tm':List AV},(sts (i+1)).hp=(sts i).hp->ct nt (sts i).tm o.dst x=some (sts (i+1)).tm ->
  bR E pc true g1 tm1 ⟨dep+1,0,(sts ops.size).hp.gen (dep+1) 0,0⟩ o=some (x,[])->o.wpIn (FW ro) 0 E.P a1 w1 K Q:=by
  intro x tm' ZA hx hq
  obtain⟨R,Y⟩:=jn (tm1:=tm1) hx
  refine sX (E:=E) (o:=o) S.sim V rfl ZT hpc (λh=>by cases h) hq ro K Q λu w' ⟨M',Zw,h1,h2,h3,h4⟩=>hK _ _ ?_
  rw[kP]at h2 h3
  obtain⟨h5,h6⟩:=(V.mono h3.mem h3.map).put ZX Y h1
  refine fin u x R w' M' Zw ZA hx Y h5 h6 h2 h3 λq hq hn=>hq (h4 q hn (λk hk=>by simp at hk))
 have hno:wanted ops (sts i).tm o=some false->if Region.wanted o (yielded ops a1.tmps) then o.wpIn (FW ro) 0 E.P a1 w1 K Q else K (a1.put o.dst undef) w1:=by
  intro hw
  have ZG:=hw
  rw[<-hwd]at ZG
  rw[gS V ZG]
  simp only[gH,if_false]
  unfold evalOp at step
  rw[hw]at step
  simp only[aZ]at step
  obtain⟨tm',ht,he⟩:=step
  have hx:ct nt (sts i).tm o.dst AV.undef=some (sts (i+1)).tm:=by rw[<-he];exact ht
  obtain⟨R,Y⟩:=jn (tm1:=tm1) hx
  obtain⟨h1,h2⟩:=V.put ZX Y (u:=undef) (.v rfl)
  exact hK _ _ (fin undef AV.undef R w1 M1 X (by rw[<-he]) hx Y h1 h2 S.sim pN.refl λ_ h=>h)
 have Z3 : ∀ {d:Nat} {x:AV} {bs:List aJ},3<=cls E o->(sts (i+1)).hp=keyed ⟨dep,d,(sts i).hp.gen dep d,0⟩ 0 bs (sts i).hp->ct nt (sts i).tm o.dst x=some (sts (i+1)).tm ->
  bR E pc true g1 tm1 ⟨dep,d,(sts i).hp.gen dep d,0⟩ o=some (x,bs)->(∀k,X { (⟨dep,d,(sts i).hp.gen dep d,0⟩:Ref)with k:=k}=none)->o.wpIn (FW ro) 0 E.P a1 w1 K Q:=by
  intro d x bs Z ZB hx hq' ZP
  obtain⟨R,Y⟩:=jn (tm1:=tm1) hx
  refine sX (E:=E) (o:=o) S.sim V rfl ZP hpc (λh=>by cases h) hq' ro K Q λu w' ⟨M',Zw,h1,h2,h3,h4⟩=>hK _ _ ?_
  obtain⟨h5,h6⟩:=(V.mono h3.mem h3.map).put ZX Y h1
  refine⟨hc',(fF _ _ _).trans hds,M',Zw,R,oQ g1 ⟨dep,d,(sts i).hp.gen dep d,0⟩ bs,c,qe C.toRegB ho O hi ZW hx Y,h5,h6,h2,S.fwd.trans h3,S.le,λj oj hj s Zu=>(O j).2 (.inl (S.cut j oj hj s Zu)),λq hq=>?_,λq=>?_⟩
  ·by_cases Z0:X q=none
   ·by_cases hk : ∃k,k<bs.length/\q = { (⟨dep,d,(sts i).hp.gen dep d,0⟩:Ref)with k:=k}
    ·obtain⟨k,hk,e⟩:=hk
     refine .inr ⟨i,N,(O i).2 (.inr rfl),?_,?_⟩
     ·rcases dH i c with U | U
      ·have:=S.cut i o U ho (by omega)
       rw[hi]at this;cases this
      ·exact U
     ·subst e
      refine⟨aW _,?_⟩
      simp only
      rw[ZB,ab.jV,if_pos ⟨rfl,rfl,by intro e;rw[e]at hk;simp at hk⟩]
      exact nD _
    ·exact absurd (h4 q Z0 λk hk' e=>hk ⟨k,hk',e⟩) hq
   ·rcases S.hand q Z0 with h | ⟨j,g1',g2,g3,g4⟩
    ·exact .inl h
    ·exact .inr ⟨j,g1',(O j).2 (.inl g2),g3,g4⟩
  ·by_cases hk:q.d=dep/\q.t=d/\q.g=(sts i).hp.gen dep d/\q.k<bs.length
   ·have hmk:makes sts i q:=by
     obtain⟨k1,k2,k3,k4⟩:=hk
     refine⟨by rw[k1,k2,k3];exact aW _,?_⟩
     rw[ZB,ab.jV,if_pos ⟨k1,k2,by intro e;rw[e]at k4;simp at k4⟩,k3]
     exact nD _
    refine⟨i+1,N,?_,λj hj hT=>?_⟩
    ·rw[ZB,ab.kF]
     unfold oQ
     rw[if_pos hk,if_pos hk]
    ·rw[O j]
     by_cases J:j=i
     ·subst J;simp
     ·have s:=ir hj
      have ZN:turns sts i q:=by
       obtain⟨k1,k2,k3,k4⟩:=hk
       intro e
       have h5:(sts i).hp.get q≠none:=by
        rw[<-e,ZB,ab.kF]
        unfold oQ
        rw[if_pos ⟨k1,k2,k3,k4⟩,cw k4]
        simp
       have:=Ig C A B D F (gh N) q h5
       rw[k1,k2,k3]at this
       exact absurd this (wu _)
      have Z7 : ¬j<i:=by
       intro ZI
       obtain⟨k1,k2,k3,k4⟩:=hk
       have Zy : ∀m,m<=i->(sts m).hp.get q≠none->False:=by
        intro m hm W
        have h6:=Ig C A B D F (rk hm (gh N)) q W
        have h7:=og C A B hm (gh N) q.d q.t
        rw[k1,k2]at h6 h7
        rw[k3]at h6
        omega
       by_cases h8:(sts j).hp.get q=none
       ·exact Zy (j+1) ZI (λh9=>hT (by rw[h8,h9]))
       ·exact Zy j (gh ZI) h8
      have:(L j=true↔j<i):=by
       obtain⟨n',k1,k2,k3⟩:=S.get q
       have h9:=k3 i N ZN
       rw[hi]at h9
       have h10:=k3 j hj hT
       rw[h10]
       constructor
       ·intro Z9
        have : ¬i<n':=λh=>by simpa using h9.2 h
        omega
       ·intro Z9;exact absurd Z9 Z7
      rw[this]
      constructor
      ·rintro(h | h)
       ·omega
       ·exact absurd h J
      ·intro h;left;omega
   ·obtain⟨n',k1,k2,k3⟩:=S.get q
    refine⟨n',k1,?_,λj hj hT=>?_⟩
    ·unfold oQ;rw[if_neg hk];exact k2
    ·have J:j≠i:=by
      intro e;subst e
      refine hT ?_
      rw[ZB,ab.kF]
      unfold oQ
      rw[if_neg hk]
     rw[<-k3 j hj hT,O j]
     simp[J]
 cases ZL:wanted ops (sts i).tm o with
 | none=>unfold evalOp at step;rw[ZL]at step;cases step
 | some b=>
 cases b with
 | false=>exact hno ZL
 | true=>
 have ZG:=ZL
 rw[<-hwd]at ZG
 have hcs:cls E o=0\/cls E o=1\/cls E o=2\/cls E o=3\/cls E o=4:=by omega
 rcases hcs with Z | Z | Z | Z | Z
 ·
  rw[gS V ZG]
  simp only[if_true]
  have hh:=CP Z
  rcases lD step with ⟨hw,_,_,_⟩ | ⟨hw,x,bs,hq,tm',ht,he⟩ | Z8
  ·rw[ZL]at hw;cases hw
  ·obtain⟨hbs,ZC⟩:=sR hh hq
   subst hbs
   exact quiet (tm':=tm') (vK (.inl Z) step) (by rw[he];exact ht) (by rw[pv ZV];exact ZC _ _)
  ·rw[fA Z8]at hh;cases hh
 ·
  rw[gS V ZG]
  simp only[if_true]
  obtain⟨t,T,hst,Z8⟩:=Fq Z
  rcases lD step with ⟨hw,_,_,_⟩ | ⟨hw,x,bs,hq,tm',ht,he⟩ | ZK
  ·rw[ZL]at hw;cases hw
  ·obtain⟨hbs,ZC⟩:=GL T hq
   subst hbs
   refine quiet (tm':=tm') (vK (.inr Z) step) (by rw[he];exact ht) ?_
   rw[pv ZV]
   refine ZC g1 _ λq ZH W=>?_
   refine(DG C A B D F G I hc S ho hi Zx (.inl Z) hst ZH W ?_).1
   have ht1:bZ tm1 t=bZ (sts i).tm t:=by
    refine ZE t ?_
    unfold Oper.looksAt
    refine EB _ (List.mem_filterMap.2 ⟨.tmp t,?_,rfl⟩)
    unfold wP at T
    split at T
    ·rename_i Zs;cases T;rw[Zs];simp[Op.operands]
    ·rename_i Zs;cases T;rw[Zs];simp[Op.operands]
    ·rename_i Zs;cases T;rw[Zs];simp[Op.operands]
    ·rename_i Zs
     split at T
     ·cases T
     ·cases T;rw[Zs];simp[Op.operands]
    ·rename_i Zs;cases T;rw[Zs];simp[Op.operands]
    ·rename_i c Zs
     split at T
     ·split at T
      ·rename_i ZR
       cases T
       rw[Zs]
       have:(Operand.tmp t)∈c.args:=by rw[<-Array.mem_toList_iff,ZR];simp
       simp only[Op.operands,Call.operands]
       simp[this]
      ·cases T
     ·cases T
    ·cases T
   have hv:=V.at_ t
   rw[ht1]at hv
   revert ZH hv
   generalize bZ (sts i).tm t=v
   generalize a1.tmps.getD t undef=u
   intro ZH hv
   cases hv with
   | ptr hr hzl=>cases ZH;rw[hr];simp
   | bD hr=>cases ZH;rw[hr];simp
   | dsl hr=>cases ZH;rw[hr];simp
   | mp hr=>cases ZH;rw[hr];simp
   | ch hr=>cases ZH;rw[hr];simp
   | _=>cases ZH
  ·rw[Z8]at ZK;cases ZK
 ·
  rw[gS V ZG]
  simp only[if_true]
  obtain⟨ty,t,xo,r,i',j',b,x,n,es',Zs,hs,hta,hb,harr,hfr,hxo,hn,hxn,hx1,hes,he,hx⟩:=JK C A B D F I ho Z ZL
  have hmem : ∀y,y = .tmp t\/y=xo->aq tm1 y=aq (sts i).tm y:=by
   intro y hy
   refine ZV y ?_
   rw[Zs]
   rcases hy with rfl | rfl<;>simp[Op.operands]
  have hpv:=ay V (x := .tmp t) (y := .ptr r i' j') (by rw[hmem _ (.inl rfl)];simp only[aq,hta])
  have hxv:=ay V (x:=xo) (y:=x) (by rw[hmem _ (.inr rfl)];exact hxo)
  have hhand:X r≠none:=by
   revert hpv
   generalize a1.eval (.tmp t)=u
   intro hpv
   cases hpv with | ptr hr hzl=>rw[hr];simp
  obtain⟨hg,hord⟩:=DG C A B D F G I hc S ho hi Zx (.inr Z) hs (q:=r) (by rw[hta];rfl) (by rw[hb];simp) hhand
  rw[hb]at hg
  obtain⟨w',hr,Z2,Zz⟩:=Ga (P:=E.P) S.sim hn hpv hxv hg hxn hx1 hfr harr hes
  obtain⟨R,Y⟩:=jn (tm1:=tm1) hx
  have hok:dB E.P o a1 w1 λu w2=>u=undef/\w2=w':=dB.AK (by simp[execOp,Zs,hr]) ⟨rfl,rfl⟩
  refine hok ro K Q λu w2 ⟨e1,e2⟩=>hK _ _ ?_
  subst e1;subst e2
  obtain⟨h5,h6⟩:=(V.mono Zz.mem Zz.map).put ZX Y (u:=undef) (.v rfl)
  refine⟨hc',(fF _ _ _).trans hds,M1,X,R,jx g1 r { b with es:=es'},c,qe C.toRegB ho O hi ZW hx Y,h5,h6,Z2,S.fwd.trans Zz,S.le,λj oj hj s Zu=>(O j).2 (.inl (S.cut j oj hj s Zu)),λq hq=>?_,λq=>?_⟩
  ·rcases S.hand q hq with h | ⟨j,h1,h2,h3,h4⟩
   ·exact .inl h
   ·exact .inr ⟨j,h1,(O j).2 (.inl h2),h3,h4⟩
  ·by_cases hqr:q=r
   ·subst hqr
    refine⟨i+1,N,?_,λj hj hT=>?_⟩
    ·rw[he,ab.aj,if_pos rfl];unfold jx;rw[if_pos rfl]
    ·rw[O j]
     by_cases J:j=i
     ·subst J;simp
     ·rw[hord j hj hT]
      constructor
      ·rintro(h | h)
       ·omega
       ·exact absurd h J
      ·intro h;left;omega
   ·obtain⟨n',h1,h2,h3⟩:=S.get q
    refine⟨n',h1,?_,λj hj hT=>?_⟩
    ·unfold jx;rw[if_neg hqr];exact h2
    ·have J:j≠i:=by
      intro e;subst e
      refine hT ?_
      rw[he,ab.aj,if_neg hqr]
     rw[<-h3 j hj hT,O j]
     simp[J]
 ·
  rw[gS V ZG]
  simp only[if_true]
  obtain⟨hh,Z8⟩:=vY Z
  rcases lD step with ⟨hw,_,_,_⟩ | ⟨hw,x,bs,hq,tm',ht,he⟩ | ZK
  ·rw[ZL]at hw;cases hw
  ·obtain⟨d,hd⟩:=fO.1 (C.made i o ho Z)
   rw[hd,bO]at hq he
   have hx:ct nt (sts i).tm o.dst x=some (sts (i+1)).tm:=by rw[he];exact ht
   obtain⟨R,Y⟩:=jn (tm1:=tm1) hx
   have ZB:(sts (i+1)).hp=keyed ⟨dep,d,(sts i).hp.gen dep d,0⟩ 0 bs (sts i).hp:=by rw[he]
   have ZM:blind E o=false->yT X (sts i).hp.get g1:=by
    intro ZY q b hg W
    rw[<-hg]
    refine S.Hu (gh N) λj hj hT=>?_
    have s:=ir hj
    rcases BK C A B D F I s hT with hm | ⟨Zu,_⟩
    ·exact yr C A B D F S N hi (by rw[hg];simp) W hj hm
    ·exact pn C hc ho hi Zx (by omega) s (.inl ZY) ⟨LH ZY,lQ (by omega)⟩ (by omega)
   rw[<-pv ZV]at hq
   have hq':bR E pc true g1 tm1 ⟨dep,d,(sts i).hp.gen dep d,0⟩ o=some (x,bs):=by
    cases ZY:blind E o with
    | true=>exact OL ZY hq
    | false=>exact zH S.sim (ZM ZY) V hq
   have ZP : ∀k,X { (⟨dep,d,(sts i).hp.gen dep d,0⟩:Ref)with k:=k}=none:=by
    intro k
    cases Z4:X { (⟨dep,d,(sts i).hp.gen dep d,0⟩:Ref)with k:=k} with
    | none=>rfl
    | some l=>
     exfalso
     rcases S.hand _ (by rw[Z4];simp)with h | ⟨j,h1,h2,h3,h4⟩
     ·simp only at h
      rcases dH i c with U | U
      ·have:=S.cut i o U ho (by omega)
       rw[hi]at this;cases this
      ·have:=og C A B U (gh N) dep d
       omega
     ·have s:=ir h1
      have h5:=h4.1;have h6:=h4.2
      simp only at h5 h6
      rcases za j i with J | J | J
      ·have:=og C A B (show j+1<=i from J) (gh N) dep d
       omega
      ·subst J;rw[hi]at h2;cases h2
      ·have Zu:=vm C A B s h4
       have ZQ:cls E ops[j]=3\/cls E ops[j]=4:=by have:=zL E ops[j];omega
       rcases ZQ with Z5 | ZQ
       ·
        obtain⟨dj,hdj⟩:=fO.1 (C.made j _ s Z5)
        have ZF:=A j _ s
        have W:d≠dj:=by
         intro e
         have:=C.distinct i j o ops[j] d ho s hd (by rw[hdj,e])
         omega
        rcases lD ZF with ⟨_,_,_,ZO⟩ | ⟨_,_,bs2,_,_,_,ZO⟩ | ZJ
        ·rw[ZO]at h6;dsimp only at h6;omega
        ·rw[ZO]at h6
         simp only[hdj,bO]at h6
         rw[ab.jV,if_neg (by intro hcc;exact W hcc.2.1)]at h6
         omega
        ·rw[(vY Z5).2]at ZJ;cases ZJ
       ·cases ZU:lR E o ops[j] with
        | true=>
         have W:=I1 (E:=E) (sk.1 ZU).1 hq
         have hmk:makes sts i { (⟨dep,d,(sts i).hp.gen dep d,0⟩:Ref)with k:=k}:=⟨aW _,by
          simp only
          rw[ZB,ab.jV,if_pos ⟨rfl,rfl,W⟩]
          exact nD _⟩
         have:=zy C A B h1 N h4 hmk
         omega
        | false=>
         have:=(pn C hc ho hi Zx (by omega) s (.inr (by omega)) ⟨ZU,lQ (by omega)⟩ (.inr (.inl ZQ))).1 h2
         omega
   exact Z3 (by omega) ZB hx hq' ZP
  ·rw[Z8]at ZK;cases ZK
 ·
  have Z1:blind E o=false:=by unfold blind;rw[Z];rfl
  cases hat:((CW o.op).isSome&&o.dst.isSome) with
  | true=>
   rw[gS V ZG]
   simp only[if_true]
   obtain⟨hat1,hat2⟩:=sk.1 hat
   obtain⟨t,ht⟩:=fO.1 hat1
   obtain⟨d,hd⟩:=fO.1 hat2
   have ZM:yT X (sts i).hp.get g1:=by
    intro q b hg W
    rw[<-hg]
    refine S.Hu (gh N) λj hj hT=>?_
    have s:=ir hj
    rcases BK C A B D F I s hT with hm | ⟨Zu,_⟩
    ·exact yr C A B D F S N hi (by rw[hg];simp) W hj hm
    ·exact pn C hc ho hi Zx (by omega) s (.inl Z1) ⟨lQ (by omega),lQ (by omega)⟩ (by omega)
   rcases KT ht ZL step with ⟨x,bs,tm',hq,hx,he⟩ | ⟨c',y,z,x,Zs,hcal,ZR,hA,hy,hx⟩
   ·rw[hd,bO]at hq he
    have hx2:ct nt (sts i).tm o.dst x=some (sts (i+1)).tm:=by rw[he];exact hx
    have ZB:(sts (i+1)).hp=keyed ⟨dep,d,(sts i).hp.gen dep d,0⟩ 0 bs (sts i).hp:=by rw[he]
    rw[<-pv ZV]at hq
    refine Z3 (by omega) ZB hx2 (zH S.sim ZM V hq) λk=>?_
    cases Z4:X { (⟨dep,d,(sts i).hp.gen dep d,0⟩:Ref)with k:=k} with
    | none=>rfl
    | some l=>
     exfalso
     rcases S.hand _ (by rw[Z4];simp)with h | ⟨j,h1,h2,h3,h4⟩
     ·simp only at h
      rcases dH i c with U | U
      ·have:=S.cut i o U ho (by omega)
       rw[hi]at this;cases this
      ·have:=og C A B U (gh N) dep d
       omega
     ·have s:=ir h1
      have h5:=h4.1;have h6:=h4.2
      simp only at h5 h6
      rcases za j i with J | J | J
      ·have:=og C A B (show j+1<=i from J) (gh N) dep d
       omega
      ·subst J;rw[hi]at h2;cases h2
      ·have Zu:=vm C A B s h4
       have ZQ:cls E ops[j]=3\/cls E ops[j]=4:=by have:=zL E ops[j];omega
       rcases ZQ with Z5 | ZQ
       ·obtain⟨dj,hdj⟩:=fO.1 (C.made j _ s Z5)
        have ZF:=A j _ s
        have W:d≠dj:=by
         intro e
         have:=C.distinct i j o ops[j] d ho s hd (by rw[hdj,e])
         omega
        rcases lD ZF with ⟨_,_,_,ZO⟩ | ⟨_,_,bs2,_,_,_,ZO⟩ | ZJ
        ·rw[ZO]at h6;dsimp only at h6;omega
        ·rw[ZO]at h6
         simp only[hdj,bO]at h6
         rw[ab.jV,if_neg (by intro hcc;exact W hcc.2.1)]at h6
         omega
        ·rw[(vY Z5).2]at ZJ;cases ZJ
       ·have:=(pn C hc ho hi Zx (by omega) s (.inr (by omega)) ⟨lQ (by omega),lQ (by omega)⟩ (.inr (.inl ZQ))).1 h2
        omega
   ·
    have hmapM:c'.args.toList.mapM (aq tm1)=some [y,z]:=by
     rw[<-ZR]
     refine mapM_congr λa ha=>ZV a ?_
     rw[Zs]
     have:a∈c'.args:=by simpa using ha
     simp[Op.operands,Call.operands,this]
    have hvs:=jW V hmapM
    obtain⟨u,v,hu1⟩:=tU hvs.1.symm
    rw[hu1]at hvs
    have vy:=hvs.2 0 y u rfl rfl
    have vz:=hvs.2 1 z v rfl rfl
    have Z6 : ∀r',iY y=some r'->(sts i).hp.get r'≠none->makes sts i ⟨r'.d,r'.t,(sts i).hp.gen r'.d r'.t,0⟩:=by
     intro r' Zt W
     obtain⟨r2,b2,z2,es2,f2,e1,e2,e3,e4⟩:=wD hA
     rw[Zt]at e1;cases e1
     refine⟨aW _,?_⟩
     simp only
     rw[e4,FF (by rw[e2];rfl),if_pos ⟨rfl,rfl⟩]
     exact nD _
    have ZZ : ∀r',iY y=some r'->X r'≠none:=by
     intro r' Zt
     revert vy Zt
     generalize y=v
     intro vy Zt
     cases vy with
     | ptr hr hzl=>cases Zt;rw[hr];simp
     | bD hr=>cases Zt;rw[hr];simp
     | dsl hr=>cases Zt;rw[hr];simp
     | mp hr=>cases Zt;rw[hr];simp
     | ch hr=>cases Zt;rw[hr];simp
     | _=>cases Zt
    obtain⟨r',b,k',e1,e2,hqr,e3,u',w',Zw,Zt,hv',Z2,Zz,hι'⟩:=FX (P:=E.P) (ty:=o.type) (H:=(sts i).hp) S.sim vy vz (λr' Zt W=>by
     cases hb:(sts i).hp.get r' with
     | none=>exact absurd hb W
     | some b=>exact ZM r' b hb (ZZ r' Zt)) (λe p hp=>DV ZM vz hp) (λr' Zt W=>by
     cases Z4:X ⟨r'.d,r'.t,(sts i).hp.gen r'.d r'.t,0⟩ with
     | none=>rfl
     | some l=>
      exfalso
      rcases S.hand _ (by rw[Z4];simp)with h | ⟨j,h1,h2,h3,h4⟩
      ·simp only at h
       rcases dH i c with U | U
       ·have:=S.cut i o U ho (by omega)
        rw[hi]at this;cases this
       ·have:=og C A B U (gh N) r'.d r'.t
        omega
      ·have:=zy C A B h1 N h4 (Z6 r' Zt W)
       subst this
       rw[hi]at h2;cases h2) hA
    have hmk:=Z6 r' e1 (by rw[e2];simp)
    obtain⟨R,Y⟩:=jn (tm1:=tm1) hx
    have hok:dB E.P o a1 w1 λu2 w2=>u2=u'/\w2=w':=by
     refine dB.gY ?_ ⟨rfl,rfl⟩
     have ZA:c'.args.map a1.eval = #[u,v]:=by
      apply Et.1
      rw[Array.toList_map,hu1]
     simp only[execOp,Zs,resolve,hcal,invoke,Sem.run_bind,Sem.run_pure,Result.andThen_ok,ZA]
     show(do pure (Next.value (<-Builtin.append_ c'.argTypes o.type #[u,v])):Sem Next).run E.P w1=_
     exact B0 Zt
    refine hok ro K Q λu2 w2 ⟨f1,f2⟩=>hK _ _ ?_
    subst f1;subst f2
    obtain⟨h5,h6⟩:=(V.mono Zz.mem Zz.map).put ZX Y hv'
    refine⟨hc',(fF _ _ _).trans hds,M1,Zw,R,_,c,qe C.toRegB ho O hi ZW hx Y,h5,h6,Z2,S.fwd.trans Zz,S.le,λj oj hj s Zu=>(O j).2 (.inl (S.cut j oj hj s Zu)),λq hq=>?_,λq=>?_⟩
    ·by_cases Zv:q=⟨r'.d,r'.t,(sts i).hp.gen r'.d r'.t,0⟩
     ·refine .inr ⟨i,N,(O i).2 (.inr rfl),?_,by rw[Zv];exact hmk⟩
      rcases dH i c with U | U
      ·have:=S.cut i o U ho (by omega)
       rw[hi]at this;cases this
      ·exact U
     ·by_cases Z0:X q=none
      ·exact absurd (hι' q Z0 Zv) hq
      ·rcases S.hand q Z0 with h | ⟨j,g1',g2,g3,g4⟩
       ·exact .inl h
       ·exact .inr ⟨j,g1',(O j).2 (.inl g2),g3,g4⟩
    ·have ZS:(sts (i+1)).hp.get q=jx (oo (sts i).hp.get r') ⟨r'.d,r'.t,(sts i).hp.gen r'.d r'.t,0⟩ k' q:=by rw[e3,get_append _ _ _ _ hqr]
     by_cases Zv:q=⟨r'.d,r'.t,(sts i).hp.gen r'.d r'.t,0⟩
     ·refine⟨i+1,N,by rw[ZS];unfold jx;rw[if_pos Zv,if_pos Zv],λj hj hT=>?_⟩
      rw[O j]
      by_cases J:j=i
      ·subst J;simp
      ·have ZN:turns sts i q:=by
        intro e
        have h5:(sts i).hp.get q≠none:=by
         rw[<-e,ZS];unfold jx;rw[if_pos Zv];simp
        have:=Ig C A B D F (gh N) q h5
        rw[Zv]at this
        exact absurd this (wu _)
       have Z7 : ¬j<i:=by
        intro ZI
        have Zy : ∀m,m<=i->(sts m).hp.get q≠none->False:=by
         intro m hm W
         have h6:=Ig C A B D F (rk hm (gh N)) q W
         have h7:=og C A B hm (gh N) q.d q.t
         rw[Zv]at h6 h7
         simp only at h6 h7
         omega
        by_cases h8:(sts j).hp.get q=none
        ·exact Zy (j+1) ZI (λh9=>hT (by rw[h8,h9]))
        ·exact Zy j (gh ZI) h8
       have:(L j=true↔j<i):=by
        obtain⟨n',k1,k2,k3⟩:=S.get q
        have h9:=k3 i N ZN
        rw[hi]at h9
        have h10:=k3 j hj hT
        rw[h10]
        constructor
        ·intro Z9
         have : ¬i<n':=λh=>by simpa using h9.2 h
         omega
        ·intro Z9;exact absurd Z9 Z7
       rw[this]
       constructor
       ·rintro(h | h)
        ·omega
        ·exact absurd h J
       ·intro h;left;omega
     ·by_cases ZD:q=r'
      ·refine⟨i+1,N,by rw[ZS];unfold jx oo;rw[if_neg Zv,if_neg Zv,if_pos ZD,if_pos ZD],λj hj hT=>?_⟩
       rw[O j]
       by_cases J:j=i
       ·subst J;simp
       ·have s:=ir hj
        have:(L j=true↔j<i):=by
         rcases BK C A B D F I s hT with hm | ⟨Zu,_⟩
         ·exact yr C A B D F S N hi (by rw[ZD,e2];simp) (by rw[ZD];exact ZZ r' e1) hj hm
         ·exact pn C hc ho hi Zx (by omega) s (.inl Z1) ⟨lQ (by omega),lQ (by omega)⟩ (by omega)
        rw[this]
        constructor
        ·rintro(h | h)
         ·omega
         ·exact absurd h J
        ·intro h;left;omega
      ·obtain⟨n',k1,k2,k3⟩:=S.get q
       refine⟨n',k1,?_,λj hj hT=>?_⟩
       ·unfold jx oo;rw[if_neg Zv,if_neg ZD];exact k2
       ·have J:j≠i:=by
         intro e;subst e
         refine hT ?_
         rw[ZS];unfold jx oo;rw[if_neg Zv,if_neg ZD]
        rw[<-k3 j hj hT,O j]
        simp[J]
  | false=>
  have ZU : ∀oj,lR E o oj=false/\lR E oj o=false:=λoj=>⟨lQ (by omega),LI hat⟩
  have ZC : ∀q j,j<ops.size->turns sts j q->(L j=true↔j<i):=by
   intro q j hj hT
   have s:=ir hj
   refine pn C hc ho hi Zx (by omega) s (.inl Z1) (ZU _) ?_
   rcases BK C A B D F I s hT with hm | ⟨Zu,_⟩
   ·exact .inr (.inr ⟨Z,vm C A B s hm⟩)
   ·omega
  have hg:g1=(sts i).hp.get:=funext λq=>S.Hu (gh N) (ZC q)
  have hD:o6 X (sts i).hp:=by
   intro q l hq
   rcases S.hand q (by rw[hq];simp)with h | ⟨j,h1,h2,h3,h4⟩
   ·rcases dH i c with U | U
    ·have:=S.cut i o U ho (by omega)
     rw[hi]at this;cases this
    ·exact xN h (og C A B U (gh N) _ _)
   ·have s:=ir h1
    have J:=(pn C hc ho hi Zx (by omega) s (.inl Z1) (ZU _) (.inr (.inr ⟨Z,vm C A B s h4⟩))).1 h2
    exact xN h4.2 (og C A B (show j+1<=i from J) (gh N) _ _)
  have hO:ue M1 X ⟨tm1,(sts i).hp⟩ nt a1 w1:=⟨by rw[<-hg];exact S.sim,hD,V,ZX⟩
  obtain⟨x,R,hx,Y,hev⟩:=Ec ZE step
  refine zI (E:=E) (Q:=Q) hO hpc htc (λh=>by cases h) (.inl rfl) hev λa' w' ⟨⟨M',Zw,hO',Zz⟩,hd'⟩=>hK a' w' ⟨hc',hd'.trans hds,M',Zw,R,(sts (i+1)).hp.get,i+1,qe C.toRegB ho O hi ZW hx Y,hO'.tr,hO'.nt,hO'.sim,?_,N,?_,?_,?_⟩
  ·have:=S.fwd
   rw[hg]at this
   exact this.trans Zz
  ·intro j oj hj s Zu
   by_cases J:j=i
   ·exact(O j).2 (.inr J)
   ·exact(O j).2 (.inl ((pn C hc ho hi Zx (by omega) s (.inl Z1) (ZU _) (.inr (.inr ⟨Z,Zu⟩))).2 (by omega)))
  ·intro q hq
   cases Zv:Zw q with
   | none=>exact absurd Zv hq
   | some l=>exact .inl (hO'.dom q l Zv)
  ·intro q
   refine⟨i+1,N,rfl,λj hj hT=>?_⟩
   rw[O j]
   by_cases J:j=i
   ·subst J;simp
   ·rw[ZC q j hj hT]
    constructor
    ·rintro(h | h)
     ·omega
     ·exact absurd h J
    ·intro h;left;omega
omit D F G I in
theorem GM{L:Nat->Bool}(d : ∀i,i<ops.size->L i=true){a J:Act}{K:World}(u:a.defers=ds)(U:O4 E nt ops sts M ι w ds L J K):iH M ι (sts 0) a w nt (sts ops.size) J K:=by
 obtain⟨V,v,N,g,tm1,T,c,p,n,s,k⟩:=U
 have y : ∀t,bZ tm1 t=bZ (sts ops.size).tm t:=by
  intro t
  obtain⟨z,Q⟩:=p t
  obtain⟨R,x⟩:=ER C.toRegB A ops.size (aW _) t
  by_cases e : ∃j,j<ops.size/\gx ops j=some t
  ·obtain⟨j,b,f⟩:=e
   rw[z j b (d j b) f,R j b (by simpa using b) f]
  ·rw[Q λj b _ f=>e ⟨j,b,f⟩,x λj b _ f=>e ⟨j,b,f⟩]
 have m:TR N g (sts ops.size).tm J:=⟨λt=>by rw[<-y];exact n.at_ t⟩
 have O:T=(sts ops.size).hp.get:=funext λq=>k.Hu (aW _) λj b _=>⟨λ_=>b,λ_=>d j b⟩
 refine⟨⟨N,g,⟨by rw[<-O];exact k.sim,?_,m,s⟩,by rw[<-O];exact k.fwd⟩,v.trans u.symm⟩
 intro q l S
 rcases k.hand q (by rw[S];simp)with h | ⟨j,z,_,_,x⟩
 ·exact xN h (og C A B k.le (aW _) _ _)
 ·exact xN x.2 (og C A B (show j+1<=ops.size from z) (aW _) _ _)
theorem Qu(Zt : ∀f u y,pc f u=some y->fV E.P f u y)(Z : ∀f u H y H',tc f u H=some (y,H')->lL E.P f u H y H'){ro:Option Nat}{a0:Act}(v:a0.defers=ds){Q:Exit->Act->World->Prop}
 (hQ : ∀R w',iH M ι (sts 0) a0 w nt (sts ops.size) R w'->Q .normal R w') : ∀(b:Nat)(a:Array Bool)(N:Act)(O:World),a.size=ops.size ->
 (List.range ops.size).countP (λi => !a.getD i false)<=b->O4 E nt ops sts M ι w ds (λi=>a.getD i false) N O->wpAnyIn (FW ro) 0 E.P .any ops Q b a N O:=by
 have xB : ∀ {a:Array Bool},a.size=ops.size->Region.ready .any ops a=[] ->∀i,i<ops.size->a.getD i false=true:=by
  intro a g h i
  induction i using Nat.strongRecOn with | ind i ih=>
  intro hi
  cases x:a.getD i false with
  | true=>rfl
  | false=>
   exfalso
   have k:=ir hi
   have W:a.getD i true=false:=by
    have:i<a.size:=by omega
    simpa [Array.getD,this] using x
   have:i∈Region.ready .any ops a:=by
    rw[mem_ready]
    refine⟨W,_,k,λe S hb=>?_⟩
    have t:e.on∈dP ops[i]:=by
     unfold dP
     exact kf.2 ⟨e,Eo.2 ⟨by simpa using S,hb⟩,rfl⟩
    have c:=C.edges i _ k _ t
    exact ih e.on c (by omega)
   rw[h]at this
   cases this
 intro b
 induction b with
 | zero=>
  intro a N O g hf U
  have l : ∀i,i<ops.size->a.getD i false=true:=by
   intro i hi
   cases x:a.getD i false with
   | true=>rfl
   | false=>
    exfalso
    have:0<(List.range ops.size).countP (λi => !a.getD i false):=List.countP_pos_iff.2 ⟨i,sj.2 hi,by rw[x];rfl⟩
    omega
  refine⟨?_,hQ _ _ (GM C A B l v U)⟩
  refine Ml.2 λi hi=>?_
  rw[mem_ready]at hi
  obtain⟨z,o,k,_⟩:=hi
  have c:i<ops.size:=(fP.1 k).1
  have T:=l i c
  have:i<a.size:=by omega
  simp[Array.getD,this]at z T
  rw[T]at z
  cases z
 | succ b ih=>
  intro a N O g hf U
  refine⟨λhr=>hQ _ _ (GM C A B (xB g hr) v U),λi hi=>?_⟩
  rw[mem_ready]at hi
  obtain⟨z,o,k,Y⟩:=hi
  have c:i<ops.size:=(fP.1 k).1
  have s:i<a.size:=by omega
  have J:a.getD i false=false:=by simpa [Array.getD,s] using z
  have q : ∀e∈dP o,(λi=>a.getD i false) e=true:=by
   intro e S
   unfold dP at S
   obtain⟨d,hd,rfl⟩:=kf.1 S
   obtain⟨T,h2⟩:=Eo.1 hd
   exact Y d (by simpa using T) h2
  have m : ∀j,(λj=>(a.setIfInBounds i true).getD j false) j=true↔((λj=>a.getD j false) j=true\/j=i):=by
   intro j
   simp only
   by_cases n:j=i
   ·subst n
    simp[s]
   ·rw[getD_set_ne false (nE n)]
    simp[n]
  have:=LA (E:=E) (tc:=tc) (ro:=ro) (K:=wpAnyIn (FW ro) 0 E.P .any ops Q b (a.setIfInBounds i true)) (Q:=Q) C A B D F G I Zt Z (L:=λi=>a.getD i false) k J q m U λR w' Zs=>by
   refine ih _ R w' (by simp[g]) ?_ Zs
   have:=Al (p:=λj => !a.getD j false) (p':=λj => !(a.setIfInBounds i true).getD j false) (i:=i) (λj X=>by
    simp only[gE]at X ⊢
    cases x:a.getD j false with
    | false=>rfl
    | true=>have:=(m j).2 (.inl x);simp only at this;rw[this]at X;cases X) (by simp only[J,xK]) (by have:=(m i).2 (.inr rfl);simp only at this ⊢;rw[this];rfl) (List.range ops.size) (sj.2 c)
   omega
  unfold wpOpIn
  rw[k]
  simp only
  split
  ·rename_i V
   rw[if_pos V]at this
   exact this
  ·rename_i V
   rw[if_neg V]at this
   exact⟨λ_ _=>trivial,this⟩
end
theorem Hg{E:Env}(L:E.P.follows .mixedOrders=true){ops:Array Oper}(c:NZ E ops=true){pc:FuncId->List AV->Option AV}(u : ∀f n y,pc f n=some y->fV E.P f n y)
 {tc:pY->List AV->ab->cb} (s : ∀f n H y z,tc f n H=some (y,z)->lL E.P f n H y z) {nt dep id:Nat} {st b:St} {M:Mem} {ι:Map} {a:Act} {w:World} {ro:Option Nat} {Q:Exit->Act->World->Prop}
 (h:kU E pc tc nt dep true ops ops.toList st=some b) (G:oZ E ops b=true) (e:ue M ι st nt a w) (K : ∀J w',iH M ι st a w nt b J w'->Q .normal J w'):(Code.region id ops true).wpIn (FW ro) 0 E.P Q a w:=by
 obtain⟨sts,T,x,N⟩:=B8 ops.toList st b h
 rw[wB]at x
 have C:=Qr c
 have A : ∀i o,ops[i]?=some o->evalOp E pc tc nt dep true ops o (sts i)=some (sts (i+1)):=λi o R=>N i o (by simpa using R)
 subst T
 subst x
 have v:(nQ E ops).isEmpty=false:=by
  unfold NZ at c
  rw[aY]at c
  simpa using c.1
 unfold oZ at G
 rw[v,tl,aY,aY]at G
 refine wpIn_region_any L ?_
 have p:pN M ι (sts 0).hp.get w M ι (sts 0).hp.get { w with drawn:=w.drawn+1} :=
  ⟨rfl,rfl,rfl,aW _,λ_ _ _=>rfl,λ_ _ _ h=>h,λ_ _ h=>h,λr k l h O => .inr ⟨r,k,l,h,O,rfl⟩,λ_ _ _ h => .inl h⟩
 have d : ∀i,(Array.replicate ops.size false).getD i false=false:=by
  intro i
  simp only[xR,HO]
  split<;>rfl
 refine Qu (tc:=tc) (M:=M) (ι:=ι) (w:=w) (a0:=a) C A G.2.2 e.sim e.dom G.1 G.2.1 u s rfl K ops.size _ a _ (by simp) ?_ ?_
 ·exact rk List.countP_le_length (by simp)
 ·refine⟨λi o hi=>?_,rfl,M,ι,(sts 0).tm,(sts 0).hp.get,0,?_,e.tr,e.nt,e.sim.drew rfl,p,ui _,λj o g=>absurd g (Nat.not_lt_zero _),λq S=>?_,λq=>⟨0,ui _,rfl,λj _ _=>⟨λg=>?_,λg=>absurd g (Nat.not_lt_zero _)⟩⟩⟩
  ·exact absurd ((d i).symm.trans hi) (by simp)
  ·exact λt=>⟨λi _ hi=>absurd ((d i).symm.trans hi) (by simp),λ_=>rfl⟩
  ·cases m:ι q with
   | none=>exact absurd m S
   | some l=>exact .inl (e.dom q l m)
  ·exact absurd ((d j).symm.trans g) (by simp)
end
end Go.Ab
namespace Go.Ab
open Go.ChangeShapes Go.WideShapes Go.RowKit
structure Kept (W W':World):Prop where
 os:W'.os=W.os
 output:W'.output=W.output
 size:W.heap.size<=W'.heap.size
 old : ∀b,b<W.heap.size->W'.heap[b]?=W.heap[b]?
theorem Kept.keptBut{W b:World}(h:Kept W b)(a:MemPlace->Prop):W.keptBut b a:=by
 refine⟨h.os,h.output,λi hi=>?_⟩
 rw[h.old i hi]
 have:=ir hi
 rw[this]
 cases W.heap[i]<;>simp
theorem Kept.frozen{W b:World}(h:Kept W b){a:Addr}(c:a.block<W.heap.size):b.frozen? a=W.frozen? a:=by
 unfold World.frozen?
 rw[h.old _ c]
theorem Kept.same{W a:World}(h:Kept W a){p:MemPlace}(hp:p.block<W.heap.size):W.sameAt a p:=by
 cases p with
 | cell b off=>exact World.cell?_of_block (h.old b hp)
 | map b=>exact h.old b hp
section
variable{H:Type}{enc:TypeId × Value->H}{P:Program}
theorem ES{T:TypeId->Prop}(K:Kids P T)(L : ∀t e,T t->P.underlying t=some (.slice e)->0<P.cellsOf e){W m:World}(N:Kept W m){g:Nat->Bool}{a:Nat} : ∀ {b:List TypeId} {c:List Value} {ds:List (DataW H)} {ps:List MemPlace},(∀t∈b,T t) ->
 DataW.TrodAll enc P W a (λ_=>true) true b c ds ps->(∀p∈ps,g p.block=true)->DataW.TrodAll enc P m a g true b c ds ps:=by
 intro b c ds ps j h k
 have s:=h.respare K L j k
 have l:=h.lt
 clear h k j
 induction b generalizing c ds ps with
 | nil=>
  obtain⟨rfl,rfl,rfl⟩:=trodAll_nil s
  exact trodAll_mk0
 | cons t b O=>
  obtain⟨v,J,d,y,p,q,rfl,rfl,rfl,⟨n,u⟩,z⟩:=trodAll_cons s
  refine⟨p,q,⟨n,DataW.trod_carry n t _ _ u λx f=>N.same (l x (EB _ f))⟩,O z λx f=>l x (List.mem_append_right _ f),rfl⟩
theorem Ls{T:TypeId->Prop}(K:Kids P T)(hz : ∀t e,T t->P.underlying t=some (.slice e)->0<P.cellsOf e){f:Func}{s:ChangeSpec}{apart fresh a l:Bool}{W z:World}{args:Array Value}{ds gs:List (DataW H)}{g:List MemPlace}
 (hT : ∀t∈f.params.toList,T t) (L:s.vars=[]) (V:DataW.Whole enc P f.params.toList s.vars apart W args.toList ds gs g) (hs:s.fn H ds = { results:=[.lit (.bool true)],args:=ds})
 {Y:TypeId} (X:f.resultTypes = #[Y]) (Z:P.underlying Y=some .bool) (O:Kept W z):s.post enc P f apart fresh a l W args (.bool true) z:=by
 have Q:=V
 obtain⟨p,q,R,S,rfl,u,v⟩:=Q
 rw[L]at S
 obtain⟨rfl,rfl⟩:=trodVars_none S
 have y:=R.lt
 have k:s.fn H (ds++[]) = { results:=[.lit (.bool true)],args:=ds}:=by rw[pQ];exact hs
 have h : ∀(b:Nat)(d:Nat->Bool)(U:Bool),DataW.TrodAll enc P z b d U f.resultTypes.toList ((Value.bool true).resultList f.resultTypes.size) (s.fn H (ds++[])).results []:=by
  intro b d U
  rw[X,k]
  exact trodAll_mk1 (shut_bool Z true)
 have c : ∀d:Nat->Bool,(∀x∈p,d x.block=true)->DataW.TrodAll enc P z 0 d true f.params.toList args.toList (s.fn H (ds++[])).args p:=by
  intro d N
  rw[k]
  exact ES K hz O hT R N
 have m : ∀d:Nat->Bool,DataW.TrodVars enc P z d s.vars (s.fn H (ds++[])).vars []:=by
  intro d
  rw[L,k]
  rfl
 rw[pQ]at v u
 refine⟨ds,[],p++[],[],p,[],V,h _ _ _,c _ (λx J=>by simpa using y x J),m _,O.keptBut _,λ_=>?_⟩
 have j:=trodAll_append (c (λ_=>true) (λ_ _=>rfl)) (h 0 (λ_=>true) true)
 rw[pQ]at j
 refine⟨ok_one X rfl (okWide_bool_mk Z true),_,[],p++[],⟨p,[],j,(by rw[L];rfl),rfl,?_,?_⟩,λx J _=>J⟩
 ·intro b n hp
  rw[pQ]at hp
  rw[O.frozen (show(⟨b,n,none⟩:Addr).block<W.heap.size from y _ hp)]
  exact u b n hp
 ·intro ha
  rw[pQ]
  exact v ha
end
theorem Jh{E:Env}{ok:Array Oper->Bool}(j:E.Ok ok){n:Nat}{f:FuncId}{g:List AV}(h:ck E (bI E n) f g=some (.v (.bool true))){W:World}{us:List Value}
 (k:jD (λb o=>W.cell? ⟨b,o,none⟩) cQ g us):Calls E.P f us.toArray W λe d=>e = .returned (.bool true)/\Kept W d:=by
 refine((Ks j h).2 _ W us (λ_ _ _ h=>h) k).mono λe d ⟨v,M',he,hend⟩=>?_
 obtain⟨ls,l,c,_⟩:=hend.res ⟨0,0,0,0⟩
 have a:af ⟨0,0,0,0⟩ depth (.v (.bool true)) []=(.v (.bool true),[]):=rI _ depth 1 _ _ rfl
 rw[a]at c
 cases c
 exact⟨he,hend.os,hend.output,hend.size,hend.old⟩
def Ea(E:Env)(l:List FuncId):Bool:=l.all λf=>match E.P.funcs[f]? with
 | some fn => !(fn.name == "runtime.NumGoroutine")&&(match fn.body with | some c=>codeOk (zJ E) c | none=>true)
 | none=>false
def WW(ops:Array Oper)(i:Nat):Nat:=match ops[i]? with
 | some o=>(match o.dst with | some d=>d | none=>0)
 | none=>0
def sL:List (Nat × Nat × Nat × List (Tmp × Tmp))->Array Oper->List (Tmp × Tmp)
 | [],_=>[]
 | (a,b,c,l) :: d,ops=>cond (Nat.beq b ops.size) (cond (Nat.beq a (WW ops 0)) (cond (Nat.beq c (WW ops (b - 1))) l (sL d ops)) (sL d ops)) (sL d ops)
def KR(e:List (Nat × Nat × Nat))(o:Oper):Bool:=match o.op with
 | .call c=>(match c.callee with
  | .builtin .append=>(match o.dst,c.args.toList with
   | some d,[.tmp a,.tmp b]=>e.any λ(x,y,z)=>Nat.beq x d&&Nat.beq y a&&Nat.beq z b
   | _,_=>false)
  | .value (.tmp t)=>(match o.dst with
   | some d=>e.any λ(x,y,z)=>Nat.beq x d&&Nat.beq y t&&Nat.beq z 66666
   | none=>false)
  | .builtin .len=>(match o.dst with
   | some d=>e.any λ(x,y,z)=>Nat.beq x d&&Nat.beq y 0&&Nat.beq z 55555
   | none=>false)
  | _=>false)
 | .buildSlice _ n _=>(match o.dst with
  | some d=>e.any λ(x,y,z)=>Nat.beq x d&&Nat.beq y n&&Nat.beq z 77777
  | none=>false)
 | _=>false
def NR:Option Operand->Bool
 | some (.const (.slice none 0 0))=>true
 | _=>false
def S7(o:Oper):Bool:=match o.op with
 | .call c=>(match c.callee with
  | .builtin .append=>NR c.args[0]?
  | _=>false)
 | _=>false
def Ie(a:List (Nat × Nat × Nat))(o:Oper):Bool:=match o.op with
 | .buildSlice _ n _=>(match o.dst with
  | some d=>a.any λ(x,y,z)=>Nat.beq x d&&Nat.beq y n&&Nat.beq z 88888
  | none=>false)
 | .call c=>(match o.dst with
  | some d=>a.any λ(x,y,z)=>Nat.beq x d&&((Nat.beq y 0&&Nat.beq z 88888)||(Nat.beq z 88889&&(match c.callee with
   | .value (.func g)=>Nat.beq g y
   | _=>false)))
  | none=>false)
 | _=>false
def BM(a:List (Nat × Nat × Nat))(o:Oper):Bool:=S7 o||KR a o
def QO(P:Program)(l cy ld:List FuncId)(strict:Oper->Bool)(apart:Array Oper->List (Tmp × Tmp))(fN:Oper->Bool:=λ_=>false):Env := { fN:=fN,P:=P,strict:=strict,apart:=apart,mode:=λf=>if cy.contains f then (if ld.contains f then 3 else 1) else if ld.contains f then 2 else 0,allowed:=λf=>l.contains f,spec:=λ_ _=>none}
def s8(P:Program)(l cy ld:List FuncId)(strict:Oper->Bool:=λ_=>false)(apart:Array Oper->List (Tmp × Tmp):=λ_=>[])(fN:Oper->Bool:=λ_=>false)(Ay:List (FuncId × List AV × AV):=[])(wide:Oper->Bool:=λ_=>false)(nI:FuncId->Option TypeId:=λ_=>none)(thrSpec:FuncId->List AV->ab->Option (AV × ab):=λ_ _ _=>none)(sm:Hw:=IT):Env:=
 {fN:=fN,P:=P,strict:=strict,apart:=apart,mode:=λf=>if cy.contains f then (if ld.contains f then 3 else 1) else if ld.contains f then 2 else 0,allowed:=λf=>l.contains f,spec:=Fh Ay,ok:=zJ (QO P l cy ld strict apart fN),wide:=wide,nI:=nI,thrSpec:=thrSpec,sm:=sm}
theorem OQ : ∀(n:Nat)(x y:AV),Ej n x y=true->x=y:=by
 intro n
 induction n with
 | zero=>intro x y h;simp[Ej]at h
 | succ n a=>
  intro x y h
  unfold Ej at h
  split at h
  ·rw[FY h]
  ·simp only[aY]at h
   rw[nR a _ _ (iK h.1) h.2]
  ·simp only[aY,decide_eq_true_eq]at h
   rw[nR a _ _ (iK h.1.2) h.2,iK h.1.1.1,h.1.1.2]
  ·cases h
theorem NX{a b:List AV}(h:NY a b=true):a=b:=by
 unfold NY at h
 simp only[aY]at h
 exact nR (OQ 8) _ _ (iK h.1) h.2
theorem Qq{P:Program}{T:List (FuncId × List AV × AV)}(b : ∀p∈T,fV P p.1 p.2.1 p.2.2){f:FuncId}{args:List AV}{y:AV}(h:Fh T f args=some y):fV P f args y:=by
 induction T with
 | nil=>cases h
 | cons p T c=>
  obtain⟨g,xs,z⟩:=p
  unfold Fh at h
  split at h
  ·rename_i a
   simp only[aY]at a
   cases h
   have:=b _ (jM ..)
   simp only at this
   rw[<-iK a.1,<-NX a.2]
   exact this
  ·exact c (λp hp=>b p (jI _ hp)) h
theorem QN{P:Program}{l cy ld:List FuncId}{strict:Oper->Bool}{apart:Array Oper->List (Tmp × Tmp)}{fN:Oper->Bool}{Ay:List (FuncId × List AV × AV)}{wide:Oper->Bool}{nI:FuncId->Option TypeId}{thrSpec:FuncId->List AV->ab->Option (AV × ab)}{sm:Hw}(hspec : ∀p∈Ay,fV P p.1 p.2.1 p.2.2)(hm:P.follows .mixedOrders=true)(h0:Ea (s8 P l cy ld strict apart fN) l=true)(hover : ∀f t,nI f=some t->uf P f t)(hthr : ∀f args H y H',thrSpec f args H=some (y,H')->lL P (.fn f) args H y H') :
 (s8 P l cy ld strict apart fN Ay wide nI thrSpec sm).Ok (zJ (s8 P l cy ld strict apart fN Ay wide nI thrSpec sm)) where
 fns:=by
  intro f hf
  have h:Ea (s8 P l cy ld strict apart fN Ay) l=true:=h0
  have hf':f∈l:=by simpa [s8] using hf
  have:=da.1 h f hf'
  split at this
  ·rename_i fn hfn
   simp only[aY,gE]at this
   refine⟨fn,hfn,this.1,λc hc=>?_⟩
   have h2:=this.2
   rw[hc]at h2
   exact h2
  ·cases this
 specs:=λf args y h=>Qq hspec h
 same:=rfl
 overs:=hover
 thrs:=hthr
 draws:=λops hok _ hpc _ htc nt dep id st st' M ι a w ro Q hr G hO hQ=>by
  rcases Bc.1 hok with h1 | h1
  ·exact Hf hm h1 hpc htc hr hO hQ
  ·exact Hg hm h1 hpc htc hr G hO hQ
theorem NU{P:Program} : ∀p∈([]:List (FuncId × List AV × AV)),fV P p.1 p.2.1 p.2.2:=λp hp=>by simp at hp
def Fx(P:Program)(f:Func):Bool:=match f.resultTypes.toList with
 | [t]=>(match P.underlying t with | some .bool=>true | _=>false)
 | _=>false
theorem Jm{P:Program}{f:Func}(h:Fx P f=true) : ∃a,f.resultTypes = #[a]/\P.underlying a=some .bool:=by
 unfold Fx at h
 split at h
 ·rename_i t b
  split at h
  ·rename_i c
   exact⟨t,by rw[<-Et,b],c⟩
  ·cases h
 ·cases h
end Go.Ab
