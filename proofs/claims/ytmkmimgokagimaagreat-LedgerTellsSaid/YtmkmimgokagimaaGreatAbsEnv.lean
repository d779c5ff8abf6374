/-
  Regions where stores, and what looks at memory at one place, come in any order. No statement of a seat is proved here.
  Regions where stores, and what looks at memory at one place, come in any order: the theorem. No statement of a seat is proved here.
  Regions where stores, and what looks at memory at one place, come in any order: the step and the end. No statement of a seat is proved here.
  From a run of the abstract machine on every data of the parameters' types to a law's contract. No statement of a seat is proved here.
-/
import Derived.ReadAgain
import Derived.OpenShut
import Derived.ChangeSame
import Derived.RowKit
import Derived.JoinedOf
import Derived.Test.YtmkmimgokagimaaGreatAbsDrawn
set_option linter.unusedVariables false
set_option linter.unusedSimpArgs false
set_option linter.unusedSectionVars false
set_option linter.unnecessarySimpa false
namespace Go.Ab
structure aaR (E:Env) (ops:Array Oper):Prop extends RegB ops where
 made : ∀(i:Nat)(o:Oper),ops[i]?=some o->cls E o=3->o.dst.isSome=true
 stay : ∀(i:Nat)(o:Oper),ops[i]?=some o->cls E o≠0->cls E o≠3->p7 E o=false ->∃t,mI E o=some t /\∀k,iY ops k=some t->k<i
 must : ∀(i j:Nat)(oi oj:Oper),ops[i]?=some oi->ops[j]?=some oj->j<i->qu E oi oj=true->((dp ops.toList []).getD i 0).testBit j=true
 meet : ∀(i j:Nat)(oi oj:Oper),ops[i]?=some oi->ops[j]?=some oj->j<i->CS (cls E oi) (cls E oj)=true->p7 E oi=false->p7 E oj=false->((dp ops.toList []).getD i 0).testBit j=true\/settled E ops oi oj=true
theorem Ea(E:Env)(o:Oper):cls E o<=4:=by unfold cls;(repeat' split)<;>omega
theorem W5{E:Env}{ops:Array Oper}(h:UE E ops=true):aaR E ops:=by
 unfold UE at h
 rw[bh]at h
 replace h:=h.2
 simp only[gD,xf]at h
 have one : ∀(i:Nat)(o:Oper),ops[i]?=some o->(eI o).all (· < i)=true/\PZ E ops i o=true /\∀(j:Nat)(a:Oper),j<i->ops[j]?=some a->OR E ops (dp ops.toList []) o a i j=true:=by
  intro i o f
  have d:i<ops.size:=(iG.1 f).1
  have:=h i d
  rw[f]at this
  simp only[bh,gD,xf]at this
  refine⟨by simpa using this.1.1,this.1.2,λj a e n=>?_⟩
  have v:=this.2 j e
  rw[n]at v
  exact v
 have c : ∀(i j:Nat)(oi a:Oper),ops[i]?=some oi->ops[j]?=some a->j<i->yh ops (dp ops.toList []) oi a i j=true /\
  (!qu E oi a||((dp ops.toList []).getD i 0).testBit j)=true/\(!CS (cls E oi) (cls E a)||p7 E oi||p7 E a||((dp ops.toList []).getD i 0).testBit j||settled E ops oi a)=true:=by
  intro i j oi a d e b
  have:=(one i oi d).2.2 j a b e
  unfold OR at this
  rw[bh,bh]at this
  exact⟨this.1.1,this.1.2,this.2⟩
 refine⟨Qs (λi o f=>(one i o f).1) λi j oi a d e b=>(c i j oi a d e b).1,?_,?_,?_,?_⟩
 ·intro i o f y
  have:=(one i o f).2.1
  unfold PZ at this
  rw[y]at this
  exact this
 ·intro i o f A z q
  have:=(one i o f).2.1
  unfold PZ at this
  have g:N5 ops i (mI E o)=true:=by
   split at this
   ·exact absurd (by assumption) A
   ·exact absurd (by assumption) z
   ·rw[q,Dt]at this;exact this
  unfold N5 at g
  split at g
  ·rename_i t C
   refine⟨t,C,λk l=>?_⟩
   simp only[gD,xf]at g
   have p:k<ops.size:=by
    unfold iY at l
    cases u:ops[k]? with
    | none=>rw[u]at l;cases l
    | some x=>exact(iG.1 u).1
   have:=g k p
   rw[l]at this
   simpa using this
  ·cases g
 ·intro i j oi a d e b m
  have:=(c i j oi a d e b).2.1
  rw[m]at this
  simpa using this
 ·intro i j oi a d e b m r1 r2
  have:=(c i j oi a d e b).2.2
  rw[m,r1,r2]at this
  simpa using this
def Made(H H':ai)(q:Ref):Prop:=H.gen q.d q.t<=q.g/\q.g<H'.gen q.d q.t
structure yt (H H':ai):Prop where
 gen : ∀d t,H.gen d t<=H'.gen d t
 born : ∀q,H'.get q≠none->H.get q≠none\/Made H H' q
 arr : ∀q b b',H.get q=some b->q.g<H.gen q.d q.t->H'.get q=some b'->b'.arr=b.arr
theorem yt.refl(H:ai):yt H H:=⟨λ_ _=>dc _,λ_ h => .inl h,λq b b' h _ a=>by rw[h]at a;cases a;rfl⟩
theorem yt.keyed(H:ai)(d t:Nat)(m:List bz):yt H (keyed ⟨d,t,H.gen d t,0⟩ 0 m H):=by
 refine⟨λn t'=>?_,λq h=>?_,λq b b' h l c=>?_⟩
 ·rw[ai.mo];split
  ·rename_i a;obtain⟨rfl,rfl,_⟩:=a;exact Dq _
  ·exact dc _
 ·rw[ai.mV]at h
  unfold sX at h
  split at h
  ·rename_i a
   obtain⟨f,j,g,k⟩:=a
   refine .inr ⟨?_,?_⟩
   ·rw[f,j,g];exact dc _
   ·rw[ai.mo,if_pos ⟨f,j,by intro e;rw[e]at k;simp at k⟩,g];exact qY _
  ·exact .inl h
 ·rw[ai.mV]at c
  unfold sX at c
  split at c
  ·rename_i a
   obtain⟨f,j,g,k⟩:=a
   rw[f,j,g]at l
   exact absurd l (Bl _)
  ·rw[h]at c;cases c;rfl
theorem Kl{g:da}{R:List Ref}{q:Ref}{b b':bz}(h:g q=some b)(a:vK g R q=some b'):b'.arr=b.arr:=by
 unfold vK at a
 split at a
 ·rw[h]at a;simp at a;rw[<-a]
 ·rw[h]at a;cases a;rfl
theorem G6{g:da}{R:List Ref}{q:Ref}:vK g R q≠none->g q≠none:=by
 unfold vK
 split
 ·intro h e;rw[e]at h;exact h rfl
 ·exact id
theorem yt.put{H:ai}{R:List Ref}{r:Ref}{b:bz}{es:List AV}(c:(cJ H R).get r=some b):yt H ((cJ H R).put r (some { b with es})):=by
 refine⟨λd t=>?_,λq h=>?_,λq b1 b' h f a=>?_⟩
 ·rw[ai.mW _ _ _ (by rw[c];rfl),ai.ky];exact dc _
 ·rw[ai.get_put]at h
  split at h
  ·rename_i e;subst e;exact .inl (G6 (R:=R) (by rw[<-ai.eu,c];simp))
  ·exact .inl (G6 (R:=R) (by rw[<-ai.eu];exact h))
 ·rw[ai.get_put]at a
  split at a
  ·rename_i e;subst e
   cases a
   rw[ai.eu]at c
   exact(Kl h c:b.arr=b1.arr)
  ·rw[ai.eu]at a
   exact Kl h a
theorem KR{P:Program}{H H':ai}{t:TypeId}{a x:Option AV}{y:AV}(h:nT P H t a x=some (y,H')):yt H H':=by
 unfold nT at h
 split at h
 ·split at h
  ·rename_i r' i j q n _ b f
   obtain⟨⟨m,k,p⟩,h⟩:=fB.1 h
   split at h
   ·split at h
    ·rename_i u g
     split at h
     ·cases h
     ·rename_i d
      obtain⟨l,h⟩:=fB.1 h
      simp only[bO]at h
      obtain⟨c,e,h⟩:=h
      cases h
      exact yt.put (by rw[ai.eu];unfold vK;rw[if_neg d];exact f)
    ·cases h
   ·simp only[bO]at h
    obtain⟨c,e,h⟩:=h
    cases h
    exact yt.put (R:=[]) f
  ·cases h
 ·cases h
theorem Bq{P:Program}{H H':ai}{t t':Option TypeId}{s x y:AV}(h:mN P H t t' s x=some (y,H')) :
 ∃r b z es f,jA s=some r/\H.get r=some b/\b.arr=true/\H'=(⟨r.d,r.t,H.gen r.d r.t,0⟩,some ⟨z,es,true,f⟩) :: H.put r none:=by
 unfold mN at h
 split at h
 ·cases h
 ·split at h
  ·cases h
  ·split at h
   ·split at h
    ·cases h
    ·split at h
     ·split at h
      ·rename_i r' c len b e
       obtain⟨⟨_,a,_⟩,h⟩:=fB.1 h
       cases h
       exact⟨_,b,_,_,_,rfl,e,a,rfl⟩
      ·cases h
     ·cases h
   ·cases h
theorem KA{H:ai}{r:Ref}{o:Option bz}(q:Ref):ai.get ((⟨r.d,r.t,H.gen r.d r.t,0⟩,o) :: H.put r none) q=if (⟨r.d,r.t,H.gen r.d r.t,0⟩:Ref)=q then o else if q=r then none else H.get q:=by
 simp only[ai.get,ai.get_put]
theorem KB{H:ai}{r:Ref}{o:Option bz}(a:(H.get r).isSome=true)(d t:Nat):ai.gen ((⟨r.d,r.t,H.gen r.d r.t,0⟩,o) :: H.put r none) d t=if r.d=d/\r.t=t then H.gen d t+1 else H.gen d t:=by
 simp only[ai.gen]
 rw[ai.mW _ _ _ a]
 split
 ·rename_i h;rw[h.1,h.2]
 ·rfl
theorem JD{P:Program}{H H':ai}{t t':Option TypeId}{s x y:AV}(h:mN P H t t' s x=some (y,H')):yt H H' /\∃r,jA s=some r /\∀q,H'.get q≠H.get q->Made H H' q\/q=r:=by
 obtain⟨r,b,z,es,f,m,p,k,rfl⟩:=Bq h
 have j:(H.get r).isSome=true:=by rw[p];rfl
 have a : ∀q,(⟨r.d,r.t,H.gen r.d r.t,0⟩:Ref)=q->Made H ((⟨r.d,r.t,H.gen r.d r.t,0⟩,some ⟨z,es,true,f⟩) :: H.put r none) q:=by
  intro q e
  subst e
  refine⟨dc _,?_⟩
  rw[KB j,if_pos ⟨rfl,rfl⟩]
  exact qY _
 refine⟨⟨λd t=>?_,λq c=>?_,λq b1 b' n l g=>?_⟩,r,m,λq c=>?_⟩
 ·rw[KB j];split<;>omega
 ·rw[KA]at c
  split at c
  ·rename_i e;exact .inr (a q e)
  ·split at c
   ·exact absurd rfl c
   ·exact .inl c
 ·rw[KA]at g
  split at g
  ·rename_i e
   subst e
   exact absurd l (Bl _)
  ·split at g
   ·cases g
   ·rw[n]at g;cases g;rfl
 ·rw[KA]at c
  split at c
  ·rename_i e;exact .inl (a q e)
  ·split at c
   ·rename_i e;exact .inr e
   ·exact absurd rfl c
def Seen(g a:da)(v:AV):Prop :=∀q,jA v=some q->g q≠none->a q=g q
theorem A0{g c:da}{v:AV}(h:Seen g c v){q:Ref}(d:jA v=some q){b:bz}(a:g q=some b):c q=some b:=by rw[h q d (by rw[a];simp),a]
theorem GH{P:Program}{g f:da}{t:TypeId}{v x:AV}{a:List bz}(h:tD P g t (some v)=some (x,a))(k:Seen g f v):a=[]/\tD P f t (some v)=some (x,a):=by
 unfold tD at h ⊢
 cases v<;>(try (simp at h;done))
 ·rename_i r i j
  cases c:dI P t<;>cases e:aL P t<;>rw[c,e]at h<;>(try (simp at h;done))
  simp only at h ⊢
  cases d:g r with
  | none=>rw[d]at h;simp at h
  | some b=>
   rw[d]at h
   rw[A0 k rfl d]
   exact⟨(ri h).2,h⟩
 ·cases c:dI P t<;>cases e:aL P t<;>rw[c,e]at h<;>(try (simp at h;done))
  exact⟨(ri h).2,h⟩
theorem zM{P:Program}{g j:da}{t:TypeId}{v x:AV}{f:Option AV}{c:List bz}(h:eg P g t (some v) f=some (x,c))(q:Seen g j v):c=[]/\eg P j t (some v) f=some (x,c):=by
 unfold eg at h ⊢
 cases l:f.bind intOf with
 | none=>rw[l]at h;simp at h
 | some k=>
 rw[l]at h
 simp only at h ⊢
 cases he:ei P t with
 | some e=>
  rw[he]at h
  simp only at h ⊢
  cases a:aL P e with
  | none=>rw[a]at h;cases v<;>simp at h
  | some z=>
  rw[a]at h
  cases v<;>(try (simp at h;done))
  ·simp only at h ⊢
   exact⟨by obtain⟨_,h⟩:=fB.1 h;cases h;rfl,h⟩
  ·rename_i r n len cap
   simp only at h ⊢
   cases d:g r with
   | none=>rw[d]at h;simp at h
   | some b=>
    rw[d]at h
    rw[A0 q rfl d]
    exact⟨by obtain⟨_,h⟩:=fB.1 h;cases h;rfl,h⟩
 | none=>
  rw[he]at h
  simp only at h ⊢
  refine⟨?_,h⟩
  cases m:lx P t with
  | none=>rw[m]at h;simp at h
  | some p=>
  rw[m]at h
  cases a:aL P p.2 with
  | none=>simp only[a]at h;cases v<;>simp at h
  | some z=>
  simp only[a]at h
  cases v<;>(try (simp at h;done))
  ·obtain⟨_,h⟩:=fB.1 h;cases h;rfl
  ·obtain⟨_,h⟩:=fB.1 h;cases h;rfl
theorem Ey{P:Program}{g m:da}{t:TypeId}{v x:AV}{j d l:Option (Option Int)}{a:List bz}(h:iQ P g t (some v) j d l=some (x,a))(q:Seen g m v):a=[]/\iQ P m t (some v) j d l=some (x,a):=by
 have nil : ∀ {c:Prop} [Decidable c] {o:Option (Nat × Nat × Option Nat)} {f:Nat × Nat × Option Nat->AV × List bz},(∀p,(f p).2=[])->(if c then o.map f else none)=some (x,a)->a=[]:=by
  intro c _ o f u h
  obtain⟨_,h⟩:=fB.1 h
  obtain⟨p,_,h⟩:=bO.1 h
  have:=u p
  rw[h]at this
  exact this
 unfold iQ at h ⊢
 cases j<;>cases d<;>cases l<;>(try (simp at h;done))
 simp only at h ⊢
 cases v<;>(try (simp at h;done))
 ·rename_i y
  cases y<;>(try (simp at h;done))
  ·simp only at h ⊢
   exact⟨nil (λ_=>rfl) h,h⟩
  ·split at h
   ·rename_i e
    simp only[dW,AV.v.injEq,Value.slice.injEq]at e
    obtain⟨rfl,rfl,rfl⟩:=e
    exact⟨nil (λ_=>rfl) h,h⟩
   ·rename_i e;simp at e
   ·rename_i e;simp at e
   ·rename_i e;simp at e
   ·cases h
 ·simp only at h ⊢
  exact⟨nil (λ_=>rfl) h,h⟩
 ·rename_i r n len cap
  simp only at h ⊢
  cases k:g r with
  | none=>rw[k]at h;simp at h
  | some b=>
   rw[k]at h
   rw[A0 q rfl k]
   exact⟨nil (λ_=>rfl) h,h⟩
theorem Kq{g c:da}{v:AV}{p:Nat × List AV}(h:cS g v=some p)(e:Seen g c v):cS c v=some p:=by
 unfold cS at h ⊢
 cases v<;>(try (simp at h;done))
 ·rename_i y
  cases y<;>first | exact h | (simp at h;done)
 ·exact h
 ·rename_i r d len cap
  simp only at h ⊢
  cases a:g r with
  | none=>rw[a]at h;simp at h
  | some b=>
   rw[a]at h
   rw[A0 e rfl a]
   exact h
theorem Bw{P:Program}{g m:da}{r r':Ref}{d f:TypeId}{v x:AV}{k:List bz}(q:fF P f=false)(h:gl P g r d f (some v)=some (x,k))(t:Seen g m v) :
 k=[]/\gl P m r' d f (some v)=some (x,k):=by
 have other : ∀ {y:AV},y=v->(if fF P d&&isStr P f then
  match cS g y with
  | some (_,es)=>(es.mapM byteOf).map λl=>((AV.v (.string ⟨l.toArray⟩),[]):AV × List bz)
  | none=>none
  else if d == f&&fF P d then
   match y with
   | .cL r' _ _ _=>(match g r' with
    | some b=>if b.esz=1 then some (y,[]) else none
    | none=>none)
   | _=>none
  else none)=some (x,k)->k=[]/\(if fF P d&&isStr P f then
   match cS m y with
   | some (_,es)=>(es.mapM byteOf).map λl=>((AV.v (.string ⟨l.toArray⟩),[]):AV × List bz)
   | none=>none
  else if d == f&&fF P d then
   match y with
   | .cL r' _ _ _=>(match m r' with
    | some b=>if b.esz=1 then some (y,[]) else none
    | none=>none)
   | _=>none
  else none)=some (x,k):=by
  intro y e h
  split at h
  ·rename_i n
   rw[if_pos n]
   cases he:cS g y with
   | none=>rw[he]at h;simp at h
   | some p=>
    rw[he]at h
    rw[Kq he (e ▸ t)]
    refine⟨?_,h⟩
    obtain⟨_,_,h⟩:=bO.1 h
    cases h;rfl
  ·rename_i n
   split at h
   ·rename_i j
    simp only[bh,beq_iff_eq]at j
    rw[j.1,q]at j
    simp at j
   ·cases h
 unfold gl at h ⊢
 cases v
 case v y=>
  cases y
  case string s=>
   simp only[q,FF,nz,if_false]at h ⊢
   exact⟨by obtain⟨_,h⟩:=fB.1 h;cases h;rfl,h⟩
  case slice a l c=>
   rcases a with _ | a
   ·rcases l with _ | l
    ·rcases c with _ | c
     ·exact⟨by obtain⟨_,h⟩:=fB.1 h;cases h;rfl,h⟩
     ·exact⟨(ri h).2,h⟩
    ·exact⟨(ri h).2,h⟩
   ·exact⟨(ri h).2,h⟩
  all_goals exact⟨(ri h).2,h⟩
 all_goals exact other rfl h
theorem Dy{P:Program}{H H':ai}{d a:Nat}{t:TypeId}{n:Nat}{m:List (Nat × AV)}{x:AV}(h:kq P H ⟨d,a,H.gen d a,0⟩ t n (some m)=some (x,H')):yt H H' /\∀q,H'.get q≠H.get q->Made H H' q\/q∈cq H.get (m.map (·.2)):=by
 simp only[kq,bO]at h
 obtain⟨b,A,h⟩:=h
 injection h with z y
 subst y
 generalize C:cq H.get (m.map (·.2))=R
 have c : ∀q,ai.get ((⟨d,a,H.gen d a,0⟩,some b) :: cJ H R) q=if (⟨d,a,H.gen d a,0⟩:Ref)=q then some b else vK H.get R q:=by
  intro q;simp only[ai.get,ai.eu]
 have j : ∀k t',ai.gen ((⟨d,a,H.gen d a,0⟩,some b) :: cJ H R) k t'=if d=k/\a=t' then H.gen d a+1 else H.gen k t':=by
  intro k t';simp only[ai.gen,ai.ky]
 have f : ∀q,(⟨d,a,H.gen d a,0⟩:Ref)=q->Made H ((⟨d,a,H.gen d a,0⟩,some b) :: cJ H R) q:=by
  intro q e
  subst e
  refine⟨dc _,?_⟩
  rw[j,if_pos ⟨rfl,rfl⟩]
  exact qY _
 refine⟨⟨λk t'=>?_,λq g=>?_,λq b1 b' v u l=>?_⟩,λq g=>?_⟩
 ·rw[j];split
  ·rename_i e;rw[<-e.1,<-e.2];exact Dq _
  ·exact dc _
 ·rw[c]at g
  split at g
  ·rename_i e;exact .inr (f q e)
  ·exact .inl (G6 g)
 ·rw[c]at l
  split at l
  ·rename_i e;subst e;exact absurd u (Bl _)
  ·exact Kl v l
 ·rw[c]at g
  split at g
  ·rename_i e;exact .inl (f q e)
  ·unfold vK at g
   split at g
   ·rename_i p;exact .inr p
   ·exact absurd rfl g
theorem CG{P:Program}{g a:da}{t:TypeId}{v x:AV}{k:Option AV}{ok:Bool}{c:List bz}(h:eU P g t (some v) k ok=some (x,c))(l:Seen g a v):c=[]/\eU P a t (some v) k ok=some (x,c):=by
 unfold eU at h ⊢
 cases v<;>(try (simp at h;done))
 rename_i r
 cases f:HO P t with
 | none=>rw[f]at h;simp at h
 | some p=>
 obtain⟨n,et⟩:=p
 cases j:k.bind gJ with
 | none=>rw[f,j]at h;simp at h
 | some m=>
 rw[f,j]at h
 simp only at h ⊢
 cases hm:jU g r with
 | none=>rw[hm]at h;simp at h
 | some ents=>
 have e:jU a r=some ents:=by
  unfold jU at hm ⊢
  cases d:g r with
  | none=>rw[d]at hm;simp at hm
  | some b=>rw[d]at hm;rw[A0 l rfl d];exact hm
 rw[e]
 rw[hm]at h
 refine⟨?_,h⟩
 simp only at h
 split at h
 ·split at h
  ·obtain⟨_,_,h⟩:=bO.1 h;cases h;rfl
  ·obtain⟨_,_,h⟩:=bO.1 h;cases h;rfl
  ·cases h
 ·cases h
theorem Vp{E:Env}{pc:FuncId->List AV->Option AV}{g j:da}{tm:List AV}{r:Ref}{o:Oper}(b:blind E o=true){x:AV}{d:List bz}(h:cE E pc true g tm r o=some (x,d)) :
 cE E pc true j tm r o=some (x,d):=by
 unfold blind at b
 replace b:=(xi.1 b).2
 split at b
 ·rename_i a
  unfold cE at h ⊢
  simp only[a]at h ⊢
  exact h
 ·rename_i a
  unfold cE at h ⊢
  simp only[a]at h ⊢
  exact h
 ·rename_i c a
  obtain⟨l,e⟩:=xi.1 b
  split at e
  ·rename_i f k
   have m:c.args.toList=[]:=by simpa using l
   unfold cE at h ⊢
   simp only[a,m,k,yY,FE,tu,aO,ku,vS,cq,FM]at h ⊢
   exact h
  ·cases e
 ·cases b
theorem O1{E:Env}{o:Oper}(h:O2 E o=true):blind E o=true:=by
 unfold O2 at h
 unfold blind
 obtain⟨c,b⟩:=xi.1 h
 rw[c,nx]
 split at b
 ·rename_i a;rw[a]
 ·rename_i a;rw[a]
 ·cases b
theorem RP{E:Env}{oi b:Oper}(h:blind E oi=false):oK E oi b=false:=by
 unfold oK
 cases a:O2 E oi with
 | false=>rfl
 | true=>rw[O1 a]at h;cases h
theorem oJ{E:Env}{oi a:Oper}(h:cls E oi≠3):oK E oi a=false:=by
 unfold oK O2
 rw[beq_false_of_ne h]
 rfl
theorem RQ{E:Env}{oi a:Oper}(h:((Ho a.op).isSome&&a.dst.isSome)=false):oK E oi a=false:=by
 unfold oK
 rw[h,FF]
theorem O0{E:Env}{pc:FuncId->List AV->Option AV}{g:da}{tm:List AV}{r:Ref}{o:Oper}(b:O2 E o=true){x:AV}{c:List bz}(h:cE E pc true g tm r o=some (x,c)):c≠[]:=by
 unfold O2 at b
 replace b:=(xi.1 b).2
 split at b
 ·rename_i a
  unfold cE at h
  simp only[a]at h
  unfold wV at h
  split at h
  ·split at h
   ·cases h;simp
   ·cases h
  ·cases h
 ·rename_i a
  unfold cE at h
  simp only[a]at h
  cases h;simp
 ·cases b
theorem QJ{E:Env}{pc:FuncId->List AV->Option AV}{tc:xb->List AV->ai->du}{nt dep:Nat}{ops:Array Oper}{o:Oper}{st f:St}{t:Tmp}(a:Ho o.op=some t)(u:wanted ops st.tm o=some true)(h:evalOp E pc tc nt dep true ops o st=some f) :
 (∃x g tm',cE E pc true st.hp.get st.tm ⟨dep,o.dst.getD 0,st.hp.gen dep (o.dst.getD 0),0⟩ o=some (x,g)/\dg nt st.tm o.dst x=some tm'/\f=⟨tm',keyed ⟨dep,o.dst.getD 0,st.hp.gen dep (o.dst.getD 0),0⟩ 0 g st.hp⟩) \/
 ∃c y z x,o.op = .call c/\c.callee = .builtin .append/\c.args.toList.mapM (aO st.tm)=some [y,z]/\mN E.P st.hp c.argTypes[0]? c.argTypes[1]? y z=some (x,f.hp)/\y=dH st.tm t/\dg nt st.tm o.dst x=some f.tm:=by
 unfold evalOp at h
 rw[u]at h
 simp only at h
 split at h
 ·rename_i x g v
  simp only[bO]at h
  obtain⟨tm',k,rfl⟩:=h
  exact .inl ⟨x,g,tm',v,k,rfl⟩
 ·split at h
  ·cases h
  ·split at h
   ·rename_i x H d
    simp only[bO]at h
    obtain⟨tm',k,rfl⟩:=h
    refine .inr ?_
    unfold Ho at a
    split at a
    ·rename_i c n
     split at a
     ·rename_i p
      split at a
      ·rename_i t' rest b
       cases a
       unfold evalW at d
       simp only[n,p,b]at d
       cases hm:List.mapM (aO st.tm) (Operand.tmp t :: rest) with
       | none=>rw[hm]at d;simp at d
       | some args=>
        rw[hm]at d
        have j:=hm
        simp only[ny,aO,tu,tZ,fH,ig]at hm
        obtain⟨l,A,e⟩:=hm
        simp at e
        subst e
        simp only at d
        split at d
        ·rename_i s y m q
         cases q
         exact⟨c,_,_,x,n,p,by rw[b];exact j,d,rfl,k⟩
        ·rename_i m q;cases m
        ·cases d
      ·cases a
     ·cases a
    ·cases a
   ·cases h
theorem look_nil{E:Env}{pc:FuncId->List AV->Option AV}{g:da}{tm:List AV}{r:Ref}{o:Oper}{t:Tmp}(d:BA E.P o.op=some t){x:AV}{u:List bz}(h:cE E pc true g tm r o=some (x,u)) :
 u=[] /\∀f r',Seen g f (dH tm t)->cE E pc true f tm r' o=some (x,u):=by
 unfold BA at d
 split at d
 ·rename_i ty t' a
  cases d
  unfold cE at h ⊢
  simp only[a]at h ⊢
  exact⟨(GH h (λ_ _ _=>rfl)).1,λf r' e=>(GH h e).2⟩
 ·rename_i ty t' L a
  cases d
  unfold cE at h ⊢
  simp only[a]at h ⊢
  exact⟨(zM h (λ_ _ _=>rfl)).1,λf r' e=>(zM h e).2⟩
 ·rename_i ty t' K J N a
  cases d
  unfold cE at h ⊢
  simp only[a,Em,FF,cond_false]at h ⊢
  exact⟨(Ey h (λ_ _ _=>rfl)).1,λf r' e=>(Ey h e).2⟩
 ·rename_i D y t' a
  split at d
  ·cases d
  ·rename_i A
   cases d
   unfold cE at h ⊢
   simp only[a]at h ⊢
   have j:fF E.P y=false:=by simpa using A
   exact⟨(Bw (r':=r) j h (λ_ _ _=>rfl)).1,λf r' e=>(Bw j h e).2⟩
 ·rename_i ty t' k ok a
  cases d
  unfold cE at h ⊢
  simp only[a]at h ⊢
  exact⟨(CG h (λ_ _ _=>rfl)).1,λf r' e=>(CG h e).2⟩
 ·rename_i c a
  split at d
  ·rename_i F
   split at d
   ·rename_i t' l
    cases d
    unfold cE at h ⊢
    simp only[a,l,F,ny,FE,aO,tu,tZ,fH]at h ⊢
    cases C:dH tm t with
    | mp q=>
     rw[C]at h
     simp only[cO]at h ⊢
     obtain⟨G,h⟩:=NS.1 h
     simp only[if_neg G]
     refine⟨?_,λf r' e=>?_⟩
     ·unfold wb at h
      split at h
      ·cases h;rfl
      ·cases h
     ·unfold wb at h ⊢
      split at h
      ·rename_i p ents I m
       have z:jU f q=some ents:=by
        unfold jU at m ⊢
        cases v:g q with
        | none=>rw[v]at m;simp at m
        | some b=>rw[v]at m;rw[A0 e rfl v];exact m
       simp only[I,z]
       exact h
      ·cases h
    | _=>
     rw[C]at h
     simp only[cO]at h ⊢
     refine⟨?_,λf r' e=>h⟩
     unfold HQ at h
     (repeat' split at h)<;>(try simp_all)<;>(try (obtain⟨_,_,_,h⟩:=h;exact h))<;>(try (obtain⟨n,_,h⟩:=ig.1 h;simp at h;exact h.2))
   ·cases d
  ·cases d
 ·cases d
end Go.Ab
namespace Go.Ab
section
variable{E:Env}{o:Oper}
theorem Hh(h:cls E o=0):xa E o=false:=by
 unfold cls at h
 cases a:xa E o with
 | false=>rfl
 | true=>rw[a]at h;simp only[if_true]at h;(repeat' split at h)<;>omega
theorem Kr(h:cls E o=1) : ∃t,BA E.P o.op=some t/\mI E o=some t/\jo E o=false:=by
 unfold cls at h
 split at h
 ·split at h
  ·cases h
  ·rename_i f
   split at h
   ·rename_i e
    obtain⟨t,a⟩:=gI.1 e
    refine⟨t,a,?_,?_⟩
    ·have:storeT o.op=none:=by simpa using f
     simp[mI,this,a]
    ·unfold jo
     have:Y3 E o.op=false/\Bi o.op=false:=by
      unfold BA at a
      split at a<;>(try (rename_i b;rw[b];exact⟨rfl,rfl⟩))
      ·rename_i c b
       split at a
       ·rename_i d
        rw[b]
        simp[Y3,Bi,d]
       ·cases a
      cases a
     rw[this.1,this.2];simp
   ·split at h<;>cases h
 ·cases h
theorem Qm(h:cls E o=2) : ∃ty t x,o.op = .store ty (.tmp t) x/\mI E o=some t:=by
 unfold cls at h
 split at h
 ·split at h
  ·rename_i d
   obtain⟨t,a⟩:=gI.1 d
   have b:=a
   unfold storeT at a
   split at a
   ·rename_i ty t' x c
    cases a
    exact⟨ty,t,x,c,by simp[mI,b]⟩
   ·cases a
  ·(repeat' split at h)<;>cases h
 ·cases h
theorem Bb(h:cls E o=3):xa E o=true/\jo E o=false:=by
 unfold cls at h
 split at h
 ·rename_i a
  split at h
  ·cases h
  ·split at h
   ·cases h
   ·split at h
    ·cases h
    ·rename_i b;exact⟨a,by simpa using b⟩
 ·cases h
theorem MW(h:cls E o=4):mI E o=if Bi o.op then YZ o.op else Gi o.op:=by
 unfold cls at h
 split at h
 ·split at h
  ·cases h
  ·rename_i d
   split at h
   ·cases h
   ·rename_i b
    have a:storeT o.op=none:=by simpa using d
    have c:BA E.P o.op=none:=by simpa using b
    simp[mI,a,c]
 ·cases h
end
theorem LG{E:Env}{o:Oper}(h:p7 E o=true) : ∃c g,o.op = .call c/\c.callee = .value (.func g)/\E.mode g=2/\E.kH o=true/\E.strict o=false:=by
 unfold p7 at h
 rw[bh,bh]at h
 obtain⟨⟨e,f⟩,a⟩:=h
 split at a
 ·rename_i c b
  split at a
  ·rename_i g d
   exact⟨c,g,b,d,by simpa using a,e,by simpa using f⟩
  ·cases a
 ·cases a
theorem Rp{E:Env}{o:Oper}(h:p7 E o=true):cls E o=4/\mI E o=none:=by
 obtain⟨c,g,a,b,hm,p,m⟩:=LG h
 have d:storeT o.op=none:=by rw[a];rfl
 have e:BA E.P o.op=none:=by rw[a];simp[BA,b]
 have n:ke o.op=true:=by rw[a];simp[ke,b]
 have f:jo E o=true:=by simp[jo,m,a,Y3,b,hm]
 have k:Gi o.op=none:=by rw[a];simp[Gi,RE,Ho,b]
 have l:Bi o.op=false:=by rw[a];rfl
 refine⟨?_,?_⟩
 ·have j:xa E o=true:=gG f
  simp[cls,d,e,j,f]
 ·simp[mI,d,e,k,l]
theorem sS{E:Env}{o:Oper}{t:Tmp}(h:mI E o=some t):p7 E o=false:=by
 cases a:p7 E o with
 | false=>rfl
 | true=>rw[(Rp a).2]at h;cases h
theorem UB{E:Env}{pc:FuncId->List AV->Option AV}{tc:xb->List AV->ai->du}{H H':ai}{tm:List AV}{r:Ref}{o:Oper}{t:Tmp}(d:RE o.op=some t){x:AV}(h:evalW E pc tc H tm r o=some (x,H')) :
 ∃q ents a,jA (dH tm t)=some q/\jU H.get q=some ents/\H'=H.put q (some (bj a)):=by
 have upd : ∀ {ty:TypeId} {m:AV} {k v:Option AV} {y:AV} {H':ai},dQ E.P H ty (some m) k v=some (y,H') ->∃q ents a,jA m=some q/\jU H.get q=some ents/\H'=H.put q (some (bj a)):=by
  intro ty m k v y H' h
  unfold dQ at h
  split at h
  ·rename_i j et q k' p f c
   simp only[dW]at c
   subst c
   split at h
   ·rename_i g ents u e
    split at h
    ·split at h
     ·split at h
      ·cases h;exact⟨q,ents,_,rfl,e,rfl⟩
      ·cases h
     ·cases h;exact⟨q,ents,_,rfl,e,rfl⟩
     ·cases h
    ·cases h
   ·cases h
  ·cases h
 unfold RE at d
 split at d
 ·rename_i b
  cases d
  unfold evalW at h
  simp only[b,aO]at h
  exact upd h
 ·rename_i b
  cases d
  unfold evalW at h
  simp only[b,aO]at h
  exact upd h
 ·rename_i ty t' k b
  cases d
  unfold evalW at h
  simp only[b,aO]at h
  unfold iO at h
  split at h
  ·rename_i j et q k' f c l
   split at h
   ·rename_i g ents u e
    split at h
    ·split at h
     ·split at h
      ·simp only[bO]at h
       obtain⟨v,_,h⟩:=h
       cases h
       simp only[dW]at c
       exact⟨q,ents,_,by rw[c];rfl,e,rfl⟩
      ·cases h
     ·simp only[bO]at h
      obtain⟨v,_,h⟩:=h
      cases h
      simp only[dW]at c
      exact⟨q,ents,_,by rw[c];rfl,e,rfl⟩
     ·cases h
    ·cases h
   ·cases h
  ·cases h
 ·rename_i k t' m p b
  cases d
  unfold evalW at h
  simp only[b,aO]at h
  unfold fE at h
  split at h
  ·rename_i q z n A f c l
   split at h
   ·rename_i ents e
    split at h
    ·split at h
     ·cases h
      simp only[dW]at f
      exact⟨q,ents,_,by rw[f];rfl,e,rfl⟩
     ·cases h
    ·cases h
   ·cases h
  ·cases h
 ·cases d
theorem RF{g:da}{r:Ref}{ents:List AV}(h:jU g r=some ents) : ∃b,g r=some b/\b.arr=false:=by
 unfold jU at h
 split at h
 ·rename_i e;exact⟨_,e,rfl⟩
 ·cases h
theorem yt.map{H:ai}{r:Ref}{ents a:List AV}(f:jU H.get r=some ents):yt H (H.put r (some (bj a))):=by
 obtain⟨j,c,g⟩:=RF f
 refine⟨λd t=>?_,λq h=>?_,λq b1 b' h k b=>?_⟩
 ·rw[ai.mW _ _ _ (by rw[c];rfl)];exact dc _
 ·rw[ai.get_put]at h
  split at h
  ·rename_i e;subst e;exact .inl (by rw[c];simp)
  ·exact .inl h
 ·rw[ai.get_put]at b
  split at b
  ·rename_i e;subst e
   cases b
   rw[c]at h;cases h
   rw[g];rfl
  ·rw[h]at b;cases b;rfl
theorem Vu{E:Env}{pc:FuncId->List AV->Option AV}{tc:xb->List AV->ai->du}{H H':ai}{tm:List AV}{r:Ref}{o:Oper}{t:Tmp}(a:Ho o.op=some t){x:AV}(h:evalW E pc tc H tm r o=some (x,H')) :
 ∃m j y z,jA y=jA (dH tm t)/\mN E.P H m j y z=some (x,H'):=by
 unfold Ho at a
 split at a
 ·rename_i c d
  split at a
  ·rename_i k
   split at a
   ·rename_i t' rest b
    cases a
    unfold evalW at h
    simp only[d,k,b]at h
    cases hm:List.mapM (aO tm) (Operand.tmp t :: rest) with
    | none=>rw[hm]at h;simp at h
    | some args=>
     rw[hm]at h
     simp only[ny,aO,tu,tZ,fH,ig]at hm
     obtain⟨l,a,e⟩:=hm
     simp at e
     subst e
     simp only at h
     split at h
     ·rename_i s y f g
      cases g
      exact⟨_,_,_,_,rfl,h⟩
     ·rename_i f g;cases f
     ·cases h
   ·cases a
  ·cases a
 ·cases a
theorem NV{P:Program}{H H':ai}{t:TypeId}{a x:Option AV}{y:AV}(h:nT P H t a x=some (y,H'))(d k:Nat):H'.gen d k=H.gen d k:=by
 unfold nT at h
 split at h
 ·split at h
  ·rename_i r' i j v n _ b g
   obtain⟨⟨q,m,u⟩,h⟩:=fB.1 h
   split at h
   ·split at h
    ·rename_i z l
     split at h
     ·cases h
     ·rename_i e
      obtain⟨p,h⟩:=fB.1 h
      simp only[bO]at h
      obtain⟨c,f,h⟩:=h
      cases h
      rw[ai.mW _ _ _ (by rw[ai.eu];unfold vK;rw[if_neg e,g];rfl),ai.ky]
    ·cases h
   ·simp only[bO]at h
    obtain⟨c,f,h⟩:=h
    cases h
    rw[ai.mW _ _ _ (by rw[g];rfl)]
  ·cases h
 ·cases h
theorem Le{P:Program}{M:Mem}{ι:Map}{g:da}{w:World}(z:ic M ι g w){t:TypeId}{n:Nat}(I:aL P t=some n){r:Ref}{i j:Nat}{x:AV}{y c:Value}(J:VR M ι (.ptr r i j) y)(K:VR M ι x c)
 {b:bz} (u:g r=some b) (G:x.cells.length=n) (m:x.cells.all AV.one=true) (h:b.kH=false) (f:b.arr=false) {a:List AV} (k:jz b.es i j x.cells=some a) :
 ∃w',(Instr.storeAt t y c).run P w = .ok () w'/\ic M ι (lI g r { b with es:=a}) w'/\uh M ι g w M ι (lI g r { b with es:=a}) w':=by
 cases J with | ptr v e=>
 rename_i l
 have q:=z.at v e u
 have d:=K.cells
 have p:c.cells.size=n:=by have:=d.1;simp at this;omega
 obtain⟨arr,T,fz,C,D,A,F,N,L⟩:=FQ z u v e h k m (us:=c.cells.toList) (by rw[bz.map,if_neg (by simp[f])];exact d)
 refine⟨cd w l.b (.cells (cD arr (i * b.esz+j) c.cells.toList) T fz),?_,N,L⟩
 rw[q.esz]
 exact Ap I p C D A F
section
variable{E:Env}{pc:FuncId->List AV->Option AV}{tc:xb->List AV->ai->du}{nt dep:Nat}{ops:Array Oper}{sts:Nat->St}
variable(hL:aaR E ops)(hrun : ∀i o,ops[i]?=some o->evalOp E pc tc nt dep true ops o (sts i)=some (sts (i+1)))
abbrev makes(sts:Nat->St)(j:Nat)(q:Ref):Prop:=Made (sts j).hp (sts (j+1)).hp q
abbrev turns(sts:Nat->St)(j:Nat)(q:Ref):Prop:=(sts (j+1)).hp.get q≠(sts j).hp.get q
theorem Wi{o:Oper}{st b:St}{t:Tmp}(a:YZ o.op=some t)(h:evalOp E pc tc nt dep true ops o st=some b) :
 b.hp=st.hp\/(∃d,b.hp=keyed ⟨dep,o.dst.getD 0,st.hp.gen dep (o.dst.getD 0),0⟩ 0 d st.hp) \/∃f n i x,kq E.P st.hp ⟨dep,o.dst.getD 0,st.hp.gen dep (o.dst.getD 0),0⟩ f n (some [(i,dH st.tm t)])=some (x,b.hp):=by
 unfold evalOp at h
 split at h
 ·cases h
 ·simp only[bO]at h
  obtain⟨tm',g,rfl⟩:=h
  exact .inl rfl
 ·split at h
  ·rename_i x d k
   simp only[bO]at h
   obtain⟨tm',g,rfl⟩:=h
   exact .inr (.inl ⟨d,rfl⟩)
  ·split at h
   ·cases h
   ·split at h
    ·rename_i x H e
     simp only[bO]at h
     obtain⟨tm',g,rfl⟩:=h
     unfold YZ at a
     split at a
     ·rename_i f n ps j
      split at a
      ·rename_i i t' c
       cases a
       unfold evalW at e
       simp only[j,c]at e
       exact .inr (.inr ⟨f,n,i,x,e⟩)
      ·cases a
     ·cases a
    ·cases h
theorem AX{o:Oper}{st c:St}(a:cls E o=0\/cls E o=1)(h:evalOp E pc tc nt dep true ops o st=some c):c.hp=st.hp:=by
 rcases ov h with ⟨_,tm',d,he⟩ | ⟨_,x,f,e,tm',d,he⟩ | b
 ·rw[he]
 ·rw[he]
  rcases a with a | a
  ·rw[(xQ (Hh a) e).1];rfl
  ·obtain⟨t,d,_,_⟩:=Kr a
   rw[(look_nil d e).1];rfl
 ·rcases a with a | a
  ·have:=Hh a;rw[gG b]at this;cases this
  ·obtain⟨t,d,_,hw⟩:=Kr a
   rw[hw]at b;cases b
theorem Gs{o:Oper}{st a:St}{ty:TypeId}{t:Tmp}{d:Operand}(b:o.op = .store ty (.tmp t) d)(h:evalOp E pc tc nt dep true ops o st=some a)(e:wanted ops st.tm o=some true) :
 ∃y,nT E.P st.hp ty (some (dH st.tm t)) (aO st.tm d)=some (y,a.hp)/\dg nt st.tm o.dst y=some a.tm:=by
 unfold evalOp at h
 rw[e]at h
 have f:cE E pc true st.hp.get st.tm ⟨dep,o.dst.getD 0,st.hp.gen dep (o.dst.getD 0),0⟩ o=none:=by unfold cE;simp only[b]
 rw[f]at h
 simp only at h
 split at h
 ·cases h
 ·split at h
  ·rename_i x H c
   simp only[bO]at h
   obtain⟨tm',g,rfl⟩:=h
   unfold evalW at c
   simp only[b]at c
   exact⟨x,c,g⟩
  ·cases h
theorem step_map{o:Oper}{st a:St}{t:Tmp}(d:RE o.op=some t)(h:evalOp E pc tc nt dep true ops o st=some a) :
 a.hp=st.hp\/(∃c,a.hp=keyed ⟨dep,o.dst.getD 0,st.hp.gen dep (o.dst.getD 0),0⟩ 0 c st.hp) \/∃q ents b,jA (dH st.tm t)=some q/\jU st.hp.get q=some ents/\a.hp=st.hp.put q (some (bj b)):=by
 unfold evalOp at h
 split at h
 ·cases h
 ·simp only[bO]at h
  obtain⟨tm',e,rfl⟩:=h
  exact .inl rfl
 ·split at h
  ·rename_i x c g
   simp only[bO]at h
   obtain⟨tm',e,rfl⟩:=h
   exact .inr (.inl ⟨c,rfl⟩)
  ·split at h
   ·cases h
   ·split at h
    ·rename_i x H f
     simp only[bO]at h
     obtain⟨tm',e,rfl⟩:=h
     exact .inr (.inr (UB d f))
    ·cases h
theorem QI{o:Oper}{st e:St}(j:p7 E o=true)(h:evalOp E pc tc nt dep true ops o st=some e):e.hp=st.hp:=by
 obtain⟨c,g,d,f,hm,k,n⟩:=LG j
 unfold evalOp at h
 split at h
 ·cases h
 ·simp only[bO]at h
  obtain⟨tm',l,rfl⟩:=h
  rfl
 ·split at h
  ·rename_i x m b
   exfalso
   unfold cE at b
   simp only[d,f]at b
   split at b
   ·cases b
   ·simp only[yY,aO,ku,hm,if_true,Eo]at b
    cases b
  ·split at h
   ·cases h
   ·split at h
    ·rename_i x H a
     simp only[bO]at h
     obtain⟨tm',l,rfl⟩:=h
     unfold evalW at a
     simp only[d,f]at a
     split at a
     ·cases a
     ·rw[k]at a
      cases hw:m7 E pc tc st.hp ⟨dep,o.dst.getD 0,st.hp.gen dep (o.dst.getD 0),0⟩ (aO st.tm (.func g)) _ with
      | none=>rw[hw]at a;simp[qn]at a
      | some p=>
       obtain⟨y,H'⟩:=p
       rw[hw]at a
       unfold qn at a
       simp only at a
       split at a
       ·cases a;rfl
       ·cases a
    ·cases h
theorem S0{o:Oper}{st a:St}{t:Tmp}(e:Ho o.op=some t)(h:evalOp E pc tc nt dep true ops o st=some a) :
 a.hp=st.hp\/(∃b,a.hp=keyed ⟨dep,o.dst.getD 0,st.hp.gen dep (o.dst.getD 0),0⟩ 0 b st.hp) \/∃d c y z x,jA y=jA (dH st.tm t)/\mN E.P st.hp d c y z=some (x,a.hp):=by
 unfold evalOp at h
 split at h
 ·cases h
 ·simp only[bO]at h
  obtain⟨tm',f,rfl⟩:=h
  exact .inl rfl
 ·split at h
  ·rename_i x b l
   simp only[bO]at h
   obtain⟨tm',f,rfl⟩:=h
   exact .inr (.inl ⟨b,rfl⟩)
  ·split at h
   ·cases h
   ·split at h
    ·rename_i x H g
     simp only[bO]at h
     obtain⟨tm',f,rfl⟩:=h
     obtain⟨d,c,y,z,j,k⟩:=Vu e g
     exact .inr (.inr ⟨d,c,y,z,x,j,k⟩)
    ·cases h
theorem GW{H:ai}{d t:Nat}{f:List bz}{q:Ref}(h:(keyed ⟨d,t,H.gen d t,0⟩ 0 f H).get q≠H.get q):Made H (keyed ⟨d,t,H.gen d t,0⟩ 0 f H) q:=by
 rw[ai.mV]at h
 unfold sX at h
 split at h
 ·rename_i j
  obtain⟨a,c,b,g⟩:=j
  refine⟨?_,?_⟩
  ·rw[a,c,b];exact dc _
  ·rw[ai.mo,if_pos ⟨a,c,by intro e;rw[e]at g;simp at g⟩,b];exact qY _
 ·exact absurd rfl h
include hrun in
theorem JQ{i n:Nat}(a:i<=n)(d:n<=ops.size){t:Tmp}(f : ∀k,iY ops k=some t->k<i):dH (sts n).tm t=dH (sts i).tm t:=by
 induction n with
 | zero=>rw[FA.1 a]
 | succ n c=>
  rcases fm n i with h | h
  ·rw[show i=n+1 by omega]
  ·have b:=jY (show n<ops.size from d)
   obtain⟨x,g⟩:=Lg (hrun n _ b)
   rw[vX g,if_neg,c h (by omega)]
   intro e
   have:=f n (by simp[iY,b,e])
   omega
variable(hbf:ops.toList.all (Hn E (sts ops.size))=true)
include hL hrun hbf
theorem Gp{i:Nat}{o:Oper}(J:ops[i]?=some o):yt (sts i).hp (sts (i+1)).hp/\(cls E o<3 ->∀d t,(sts (i+1)).hp.gen d t=(sts i).hp.gen d t) /\
 (cls E o≠2 ->∀q,turns sts i q->makes sts i q\/cls E o=4 /\∃t,mI E o=some t/\jA (dH (sts i).tm t)=some q):=by
 have h:=hrun i o J
 have hle:=Ea E o
 have R:cls E o=0\/cls E o=1\/cls E o=2\/cls E o=3\/cls E o=4:=by omega
 have same:(sts (i+1)).hp=(sts i).hp->yt (sts i).hp (sts (i+1)).hp/\(cls E o<3 ->∀d t,(sts (i+1)).hp.gen d t=(sts i).hp.gen d t) /\
  (cls E o≠2 ->∀q,turns sts i q->makes sts i q\/cls E o=4 /\∃t,mI E o=some t/\jA (dH (sts i).tm t)=some q):=by
  intro e
  refine⟨by rw[e];exact yt.refl _,λ_ d t=>by rw[e],λ_ q f=>?_⟩
  unfold turns at f
  rw[e]at f
  exact absurd rfl f
 rcases R with a | a | a | a | a
 ·exact same (AX (.inl a) h)
 ·exact same (AX (.inr a) h)
 ·obtain⟨ty,t,x,O,hs⟩:=Qm a
  cases D:wanted ops (sts i).tm o with
  | none=>unfold evalOp at h;rw[D]at h;cases h
  | some b=>
   cases b with
   | false=>
    unfold evalOp at h;rw[D]at h
    simp only[bO]at h
    obtain⟨tm',_,e⟩:=h
    exact same (by rw[<-e])
   | true=>
    obtain⟨y,V,_⟩:=Gs O h D
    exact⟨KR V,λ_ d t=>NV V d t,λY=>absurd a Y⟩
 ·have K:=(Bb a).2
  rcases ov h with ⟨_,tm',p,he⟩ | ⟨_,x,l,f,tm',p,he⟩ | u
  ·exact same (by rw[he])
  ·have e:(sts (i+1)).hp=keyed ⟨dep,o.dst.getD 0,(sts i).hp.gen dep (o.dst.getD 0),0⟩ 0 l (sts i).hp:=by rw[he]
   refine⟨by rw[e];exact yt.keyed _ _ _ _,λm=>by omega,λ_ q f => .inl ?_⟩
   unfold turns at f
   unfold makes
   rw[e]at f ⊢
   exact GW f
  ·rw[K]at u;cases u
 ·cases G:p7 E o with
  | true=>exact same (QI G h)
  | false=>
  obtain⟨t,p,T⟩:=hL.stay i o J (by omega) (by omega) G
  have L : ∀l,(sts (i+1)).hp=keyed ⟨dep,o.dst.getD 0,(sts i).hp.gen dep (o.dst.getD 0),0⟩ 0 l (sts i).hp->yt (sts i).hp (sts (i+1)).hp/\(cls E o<3 ->∀d t,(sts (i+1)).hp.gen d t=(sts i).hp.gen d t) /\
   (cls E o≠2 ->∀q,turns sts i q->makes sts i q\/cls E o=4 /\∃t,mI E o=some t/\jA (dH (sts i).tm t)=some q):=by
   intro l e
   refine⟨by rw[e];exact yt.keyed _ _ _ _,λm=>by omega,λ_ q f => .inl ?_⟩
   unfold turns at f
   unfold makes
   rw[e]at f ⊢
   exact GW f
  cases F:Bi o.op with
  | false=>
   have j:Gi o.op=some t:=by rw[MW a,F]at p;simpa using p
   cases A:RE o.op with
   | some t'=>
    have W:t'=t:=by unfold Gi at j;rw[A]at j;simpa using j
    subst W
    rcases step_map A h with e | ⟨l,e⟩ | ⟨q,ents,S,f,hm,e⟩
    ·exact same e
    ·exact L l e
    ·refine⟨by rw[e];exact yt.map hm,λm=>by omega,λ_ q' g => .inr ⟨a,t',p,?_⟩⟩
     unfold turns at g
     rw[e,ai.get_put]at g
     split at g
     ·rename_i e2;subst e2;exact f
     ·exact absurd rfl g
   | none=>
   have hap:Ho o.op=some t:=by unfold Gi at j;rw[A]at j;exact j
   rcases S0 hap h with e | ⟨l,e⟩ | ⟨t1,t2,y,z,x,Z,U⟩
   ·exact same e
   ·exact L l e
   ·obtain⟨hm,r,hr,f⟩:=JD U
    refine⟨hm,λm=>by omega,λ_ q g=>?_⟩
    rcases f q g with k | k
    ·exact .inl k
    ·subst k;exact .inr ⟨a,t,p,by rw[<-Z];exact hr⟩
  | true=>
   have I:YZ o.op=some t:=by rw[MW a,F]at p;simpa using p
   rcases Wi I h with e | ⟨l,e⟩ | ⟨t1,n,i',x,U⟩
   ·exact same e
   ·exact L l e
   ·obtain⟨hm,f⟩:=Dy U
    refine⟨hm,λm=>by omega,λ_ q g=>?_⟩
    rcases f q g with k | k
    ·exact .inl k
    ·refine .inr ⟨a,t,p,?_⟩
     have N:(E.kH o&&Bi o.op)=true:=by
      have D:jo E o=true:=by
       unfold cls at a
       split at a
       ·split at a
        ·cases a
        ·split at a
         ·cases a
         ·split at a
          ·assumption
          ·cases a
       ·cases a
      unfold jo at D
      rcases Jy.1 D with C | C
      ·exfalso
       replace C:=(xi.1 C).2
       unfold Bi at F
       split at F
       ·rename_i Q;rw[Q]at C;cases C
       ·cases F
      ·exact C
     have X:i<ops.size:=(iG.1 J).1
     have c:=gD.1 hbf o (fL (i:=i) (by simpa using J))
     unfold Hn at c
     rw[N,I]at c
     simp only[Em,Dt]at c
     rw[JQ hrun (iF X) (dc ops.size) T]at c
     simp only[tp,Jn,cq,zG,FM,tq]at k
     revert c k
     generalize dH (sts i).tm t=v
     intro c k
     cases v with
     | cL r off len cap=>simp only[ay,depth,uP]at k;rw[k];rfl
     | v y=>simp[ay,depth]at k
     | _=>cases c
theorem sx{i n:Nat}(a:i<=n)(c:n<=ops.size)(d t:Nat):(sts i).hp.gen d t<=(sts n).hp.gen d t:=by
 induction n with
 | zero=>rw[FA.1 a];exact dc _
 | succ n b=>
  rcases fm n i with h | h
  ·rw[show i=n+1 by omega];exact dc _
  ·exact Bk (b h (by omega)) ((Gp hL hrun hbf (jY (show n<ops.size from c))).1.gen d t)
theorem N2{M:Mem}{ι:Map}{w:World}(hS0:ic M ι (sts 0).hp.get w)(hD0:uK ι (sts 0).hp){n:Nat}(f:n<=ops.size) : ∀q,(sts n).hp.get q≠none->q.g<(sts n).hp.gen q.d q.t:=by
 induction n with
 | zero=>
  intro q h
  cases b:(sts 0).hp.get q with
  | none=>exact absurd b h
  | some k=>obtain⟨l,j,_⟩:=hS0.live q k b;exact hD0 q l j
 | succ n e=>
  intro q h
  have c:=(Gp hL hrun hbf (jY (show n<ops.size from f))).1
  rcases c.born q h with a | a
  ·exact Ep (e (by omega) q a) (c.gen _ _)
  ·exact a.2
theorem adx{M:Mem}{ι:Map}{w:World}(hS0:ic M ι (sts 0).hp.get w)(hD0:uK ι (sts 0).hp){i:Nat}{r:Ref}{b:bz}(a:(sts i).hp.get r=some b){n:Nat}(g:i<=n)(l:n<=ops.size) : ∀b',(sts n).hp.get r=some b'->b'.arr=b.arr:=by
 induction n with
 | zero=>intro b' h;rw[FA.1 g]at a;rw[a]at h;cases h;rfl
 | succ n m=>
  intro b' h
  rcases fm n i with p | c
  ·rw[show i=n+1 by omega]at a;rw[a]at h;cases h;rfl
  ·have j:=(Gp hL hrun hbf (jY (show n<ops.size from l))).1
   rcases j.born r (by rw[h];simp)with e | e
   ·cases f:(sts n).hp.get r with
    | none=>exact absurd f e
    | some k=>rw[j.arr r k b' f (N2 hL hrun hbf hS0 hD0 (by omega) r e) h];exact m c (by omega) k f
   ·have u:=N2 hL hrun hbf hS0 hD0 (show i<=ops.size by omega) r (by rw[a];simp)
    have q:=sx hL hrun hbf c (by omega) r.d r.t
    have:=e.1
    omega
theorem DV{j b:Nat}{q:Ref}(f:j<ops.size)(c:b<ops.size)(h:makes sts j q)(e:makes sts b q):j=b:=by
 rcases Ip j b with a | rfl | a
 ·have:=sx hL hrun hbf (show j+1<=b from a) (iF c) q.d q.t
  have:=h.2;have:=e.1
  omega
 ·rfl
 ·have:=sx hL hrun hbf (show b+1<=j from a) (iF f) q.d q.t
  have:=e.2;have:=h.1
  omega
theorem Ax{j:Nat}{q:Ref}{o:Oper}(c:ops[j]?=some o)(h:makes sts j q):3<=cls E o:=by
 rcases fm (cls E o) 3 with a | b
 ·have:=(Gp hL hrun hbf c).2.1 a q.d q.t
  have e:=h.1;have f:=h.2
  omega
 ·exact b
variable{M:Mem}{ι:Map}{w:World}
variable(hS0:ic M ι (sts 0).hp.get w)(hD0:uK ι (sts 0).hp)(hap:(rM E ops).all (Ex (sts ops.size).tm)=true)(hsf:ops.toList.all (xK (sts ops.size))=true)
include hS0 hD0 hsf
theorem PC{i:Nat}{o:Oper}(j:ops[i]?=some o)(L:cls E o=2)(J:wanted ops (sts i).tm o=some true) :
 ∃ty t m r l k b x n d,o.op = .store ty (.tmp t) m/\mI E o=some t/\dH (sts i).tm t = .ptr r l k/\(sts i).hp.get r=some b/\b.arr=false/\b.kH=false/\aO (sts i).tm m=some x/\aL E.P ty=some n /\
  x.cells.length=n/\x.cells.all AV.one=true/\jz b.es l k x.cells=some d/\(sts (i+1)).hp=(sts i).hp.put r (some { b with es:=d})/\dg nt (sts i).tm o.dst AV.undef=some (sts (i+1)).tm:=by
 have F:i<ops.size:=(iG.1 j).1
 obtain⟨ty,t,m,f,v⟩:=Qm L
 obtain⟨y,c,O⟩:=Gs f (hrun i o j) J
 obtain⟨t',h,C⟩:=hL.stay i o j (by omega) (by omega) (sS v)
 rw[v]at h;cases h
 have g:=JQ hrun (iF F) (dc ops.size) C
 have a:=gD.1 hsf o (fL (i:=i) (by simpa using j))
 unfold xK at a
 rw[f]at a
 simp only[g]at a
 have I:=c
 unfold nT at c
 split at c
 ·rename_i r' l k R n p Q K
  simp only[dW]at p
  rw[p]at a
  simp only at a
  split at c
  ·rename_i b G
   obtain⟨⟨D,q,z⟩,c⟩:=fB.1 c
   have e:b.arr=false:=by
    split at a
    ·rename_i b' u
     rw[<-adx hL hrun hbf hS0 hD0 G (iF F) (dc _) b' u]
     simpa using a
    ·cases a
   rw[if_neg (by simp[e])]at c
   simp only[bO]at c
   obtain⟨d,A,c⟩:=c
   injection c with N S
   subst N
   exact⟨ty,t,m,r',l,k,b,R,n,d,f,v,p,G,e,z,Q,K,D,q,A,S.symm,O⟩
  ·cases c
 ·cases c
theorem Gn{j:Nat}{o:Oper}(a:ops[j]?=some o){q:Ref}(h:turns sts j q):makes sts j q\/(cls E o=2\/cls E o=4) /\∃t,mI E o=some t/\jA (dH (sts j).tm t)=some q:=by
 by_cases c:cls E o=2
 ·cases hw:wanted ops (sts j).tm o with
  | none=>have:=hrun j o a;unfold evalOp at this;rw[hw]at this;cases this
  | some b=>
   cases b with
   | false=>
    have:=hrun j o a;unfold evalOp at this;rw[hw]at this
    simp only[bO]at this
    obtain⟨tm',_,e⟩:=this
    unfold turns at h
    rw[<-e]at h
    exact absurd rfl h
   | true=>
    obtain⟨ty,t,y,r,v,u,b,x,n,k,g,f,m,p,_,_,_,_,_,_,_,he,_⟩:=PC hL hrun hbf hS0 hD0 hsf a c hw
    refine .inr ⟨.inl c,t,f,?_⟩
    unfold turns at h
    rw[he,ai.get_put]at h
    split at h
    ·rename_i e;subst e;rw[m];rfl
    ·exact absurd rfl h
 ·rcases(Gp hL hrun hbf a).2.2 c q h with d | ⟨d,l⟩
  ·exact .inl d
  ·exact .inr ⟨.inr d,l⟩
omit hrun hS0 hD0 hsf hL hbf in
theorem Uf{L:Nat->Bool}(f:Closed ops L){i:Nat}{o:Oper}(l:ops[i]?=some o)(k:L i=false)(c : ∀e∈eI o,L e=true){j:Nat}{d:Oper}(b:ops[j]?=some d)
 (h:j<i->((dp ops.toList []).getD i 0).testBit j=true) (n:i<j->((dp ops.toList []).getD j 0).testBit i=true):(L j=true↔j<i):=by
 constructor
 ·intro g
  rcases Ip j i with a | rfl | a
  ·exact a
  ·rw[k]at g;cases g
  ·have:=vt f j d b (λe m=>f j d g b e m) i (n a)
   rw[k]at this;cases this
 ·intro a
  exact vt f i o l c j (h a)
omit hS0 hD0 hsf hbf in
include hap in
theorem Ue{L:Nat->Bool}(O:Closed ops L){i:Nat}{o:Oper}(u:ops[i]?=some o)(N:L i=false)(F : ∀e∈eI o,L e=true)(g:cls E o=1\/cls E o=2){t:Tmp}(x:mI E o=some t){q:Ref}(y:jA (dH (sts i).tm t)=some q)
 {j:Nat} {m:Oper} (k:ops[j]?=some m) (f:cls E m=2\/cls E m=4) {t':Tmp} (l:mI E m=some t') (n:jA (dH (sts j).tm t')=some q):(L j=true↔j<i):=by
 have C:i<ops.size:=(iG.1 u).1
 have z:j<ops.size:=(iG.1 k).1
 obtain⟨t1,I,s1⟩:=hL.stay i o u (by omega) (by omega) (sS x)
 obtain⟨t2,J,s2⟩:=hL.stay j m k (by omega) (by omega) (sS l)
 rw[x]at I;cases I
 rw[l]at J;cases J
 have K:=JQ hrun (iF C) (dc ops.size) s1
 have R:=JQ hrun (iF z) (dc ops.size) s2
 rw[<-K]at y
 rw[<-R]at n
 have Q : ∀a b,mI E a=some t->mI E b=some t' ->¬(settled E ops a b=true):=by
  intro a b D A c
  unfold settled at c
  rw[D,A]at c
  simp only[fe,Jz]at c
  have d:=gD.1 hap
  rcases c with c | c
  ·have:=d _ c
   unfold Ex at this
   simp only[y,n]at this
   simp at this
  ·have:=d _ c
   unfold Ex at this
   simp only[y,n]at this
   simp at this
 have G : ∀a b,mI E a=some t'->mI E b=some t ->¬(settled E ops a b=true):=by
  intro a b D A c
  unfold settled at c
  rw[D,A]at c
  simp only[fe,Jz]at c
  have d:=gD.1 hap
  rcases c with c | c
  ·have:=d _ c
   unfold Ex at this
   simp only[y,n]at this
   simp at this
  ·have:=d _ c
   unfold Ex at this
   simp only[y,n]at this
   simp at this
 refine Uf O u N F k (λp=>?_) (λp=>?_)
 ·by_cases v:CS (cls E o) (cls E m)=true
  ·rcases hL.meet i j o m u k p v (sS x) (sS l)with h | h
   ·exact h
   ·exact absurd h (Q o m x l)
  ·refine hL.must i j o m u k p ?_
   unfold qu blind
   rcases g with g | g<;>rcases f with f | f<;>rw[g,f]at v ⊢ <;> first | rfl | exact absurd rfl v
 ·by_cases v:CS (cls E m) (cls E o)=true
  ·rcases hL.meet j i m o k u p v (sS l) (sS x)with h | h
   ·exact h
   ·exact absurd h (G m o l x)
  ·refine hL.must j i m o k u p ?_
   unfold qu blind
   rcases g with g | g<;>rcases f with f | f<;>rw[g,f]at v ⊢ <;> first | rfl | exact absurd rfl v
omit hrun hS0 hD0 hsf hbf in
theorem tG{L:Nat->Bool}(u:Closed ops L){i:Nat}{o:Oper}(l:ops[i]?=some o)(t:L i=false)(n : ∀e∈eI o,L e=true)(x:3<=cls E o)
 {j:Nat} {d:Oper} (f:ops[j]?=some d) (m:blind E o=false\/cls E d≠2) (k:oK E o d=false/\oK E d o=false) (c:cls E d=2\/cls E d=4\/cls E o=4/\3<=cls E d):(L j=true↔j<i):=by
 have y:=Ea E o
 have z:=Ea E d
 have q:qu E o d=true/\qu E d o=true:=by
  unfold qu
  rw[k.1,k.2]
  have a:cls E o=3\/cls E o=4:=by omega
  rcases c with c | c | ⟨p,c⟩
  ·have v:=m.resolve_right (λh=>h c)
   rcases a with a | a<;>rw[a,c,v]<;>exact⟨rfl,rfl⟩
  ·rcases a with a | a<;>rw[a,c]<;>simp
  ·have b:cls E d=3\/cls E d=4:=by omega
   rcases b with b | b<;>rw[p,b]<;>simp
 exact Uf u l t n f (λg=>hL.must i j o d l f g q.1) (λg=>hL.must j i d o f l g q.2)
end
end Go.Ab
namespace Go.Ab
section
variable{E:Env}{pc:FuncId->List AV->Option AV}{tc:xb->List AV->ai->du}{nt dep:Nat}{ops:Array Oper}{sts:Nat->St}
variable(hL:aaR E ops)(hrun : ∀i o,ops[i]?=some o->evalOp E pc tc nt dep true ops o (sts i)=some (sts (i+1)))
variable{M:Mem}{ι:Map}{w:World}{ds:List Deferred}
structure VG (E:Env) (ops:Array Oper) (sts:Nat->St) (M:Mem) (ι:Map) (w:World) (L:Nat->Bool) (M1:Mem) (ι1:Map) (g1:da) (c:Nat) (w1:World):Prop where
 sim:ic M1 ι1 g1 w1
 fwd:uh M ι (sts 0).hp.get w M1 ι1 g1 w1
 le:c<=ops.size
 cut : ∀j o,j<c->ops[j]?=some o->3<=cls E o->L j=true
 hand : ∀q,ι1 q≠none->q.g<(sts c).hp.gen q.d q.t \/∃j,j<ops.size/\L j=true/\c<=j/\makes sts j q
 get : ∀q,∃n,n<=ops.size/\g1 q=(sts n).hp.get q /\∀j,j<ops.size->turns sts j q->(L j=true↔j<n)
structure VH (E:Env) (nt:Nat) (ops:Array Oper) (sts:Nat->St) (M:Mem) (ι:Map) (w:World) (ds:List Deferred) (L:Nat->Bool) (a1:Act) (w1:World):Prop where
 closed:Closed ops L
 defers:a1.defers=ds
 at_ : ∃M1 ι1 tm1 g1 c,TS ops sts L tm1/\TR M1 ι1 tm1 a1/\a1.tmps.size=nt/\VG E ops sts M ι w L M1 ι1 g1 c w1
theorem Bt{a b:Nat}{q:Ref}(h:a<=b)(d : ∀j,a<=j->j<b ->¬turns sts j q):(sts b).hp.get q=(sts a).hp.get q:=by
 induction b with
 | zero=>rw[FA.1 h]
 | succ b g=>
  rcases fm b a with e | c
  ·rw[show a=b+1 by omega]
  ·have:=d b c (qY b)
   unfold turns at this
   rw[Ae.1 this]
   exact g c λj f k=>d j f (by omega)
theorem VG.Nd{L:Nat->Bool}{p:Mem}{f:Map}{l:da}{c:Nat}{u:World}(h:VG E ops sts M ι w L p f l c u){q:Ref}{i:Nat}(v:i<=ops.size)(k : ∀j,j<ops.size->turns sts j q->(L j=true↔j<i)):l q=(sts i).hp.get q:=by
 obtain⟨n,x,e,m⟩:=h.get q
 rw[e]
 rcases Nat.le_total n i with hle | hle
 ·exact(Bt hle λj t g d=>by
   have a:=m j (by omega) d
   have b:=k j (by omega) d
   have:=a.1 (b.2 g)
   omega).symm
 ·exact Bt hle λj t g d=>by
   have a:=m j (by omega) d
   have b:=k j (by omega) d
   have:=b.1 (a.2 g)
   omega
variable(hbf:ops.toList.all (Hn E (sts ops.size))=true)
include hL hrun hbf
theorem CT{L:Nat->Bool}{z:Mem}{e:Map}{C:da}{c:Nat}{y:World}(hS0:ic M ι (sts 0).hp.get w)(hD0:uK ι (sts 0).hp)(h:VG E ops sts M ι w L z e C c y){i:Nat}(l:i<ops.size)(D:L i=false){q:Ref}
 (A:(sts i).hp.get q≠none) (v:e q≠none) {j:Nat} (f:j<ops.size) (g:makes sts j q):(L j=true↔j<i):=by
 constructor
 ·intro a
  rcases fm j i with b | u
  ·exact b
  ·have x:=N2 hL hrun hbf hS0 hD0 (iF l) q A
   have k:=sx hL hrun hbf u (iF f) q.d q.t
   have:=g.1
   omega
 ·intro b
  rcases h.hand q v with x | ⟨F,m,a,_,p⟩
  ·have n:j<c:=by
    rcases fm j c with k | k
    ·exact k
    ·have:=sx hL hrun hbf k (iF f) q.d q.t
     have:=g.1
     omega
   exact h.cut j _ n (jY f) (Ax hL hrun hbf (jY f) g)
  ·rw[DV hL hrun hbf f m g p];exact a
variable(hS0:ic M ι (sts 0).hp.get w)(hD0:uK ι (sts 0).hp)(hap:(rM E ops).all (Ex (sts ops.size).tm)=true)(hsf:ops.toList.all (xK (sts ops.size))=true)
include hS0 hD0 hap hsf
theorem IB{L:Nat->Bool}(z:Closed ops L){D:Mem}{f:Map}{v:da}{c:Nat}{C:World}(h:VG E ops sts M ι w L D f v c C){i:Nat}{o:Oper}(u:ops[i]?=some o)(p:L i=false)(m : ∀e∈eI o,L e=true)
 (n:cls E o=1\/cls E o=2) {t:Tmp} (G:mI E o=some t) {q:Ref} (F:jA (dH (sts i).tm t)=some q) (a:(sts i).hp.get q≠none) (y:f q≠none) :
 v q=(sts i).hp.get q /\∀j,j<ops.size->turns sts j q->(L j=true↔j<i):=by
 have d:i<ops.size:=(iG.1 u).1
 have key : ∀j,j<ops.size->turns sts j q->(L j=true↔j<i):=by
  intro j x A
  have b:=jY x
  rcases Gn hL hrun hbf hS0 hD0 hsf b A with hm | ⟨l,t',k,g⟩
  ·exact CT hL hrun hbf hS0 hD0 h d p a y x hm
  ·exact Ue hL hrun hap z u p m n G F b l k g
 exact⟨h.Nd (iF d) key,key⟩
theorem RI(hpc : ∀f xs y,pc f xs=some y->cW E.P f xs y)(htc : ∀f xs H y H',tc f xs H=some (y,H')->sh E.P f xs H y H'){ro:Option Nat}{Q:Exit->Act->World->Prop}
 {L L':Nat->Bool} {i:Nat} {o:Oper} (ho:ops[i]?=some o) (hi:L i=false) (hed : ∀e∈eI o,L e=true)
 (F : ∀j,L' j=true↔(L j=true\/j=i)) {a1:Act} {w1:World} (hI:VH E nt ops sts M ι w ds L a1 w1) {K:Act->World->Prop} (hK : ∀a' w',VH E nt ops sts M ι w ds L' a' w'->K a' w') :
 if Region.wanted o (yielded ops a1.tmps) then o.wpIn (FW ro) 0 E.P a1 w1 K Q else K (a1.put o.dst undef) w1:=by
 obtain⟨hc,hds,M1,S,tm1,g1,c,hTS,O,hnt,I⟩:=hI
 have D:i<ops.size:=(iG.1 ho).1
 have hc':Closed ops L':=Closed.next hc ho hed F
 have hlook : ∀t∈o.looksAt ops,dH tm1 t=dH (sts i).tm t:=λt ht=>GD hL.toRegB hrun hc ho hi hed hTS ht
 have hag:=AF hlook
 have hwd:=yw hlook
 have step:=hrun i o ho
 have hle4:=Ea E o
 have fin : ∀(u:Value)(x:AV)(G:List AV)(w':World)(M':Mem)(Y:Map),(sts (i+1)).hp=(sts i).hp->dg nt (sts i).tm o.dst x=some (sts (i+1)).tm->dg nt tm1 o.dst x=some G ->
  TR M' Y G (a1.put o.dst u)->(a1.put o.dst u).tmps.size=nt->ic M' Y g1 w'->uh M1 S g1 w1 M' Y g1 w'->(∀q,Y q≠none->S q≠none)->VH E nt ops sts M ι w ds L' (a1.put o.dst u) w':=by
  intro u x G w' M' Y hsame hx T htr hn hS' hF' hι
  refine⟨hc',(put_defers _ _ _).trans hds,M',Y,G,g1,c,uo hL.toRegB ho F hi hTS hx T,htr,hn,hS',I.fwd.trans hF',I.le,λj oj V A Z=>(F j).2 (.inl (I.cut j oj V A Z)),λq hq=>?_,λq=>?_⟩
  ·rcases I.hand q (hι q hq)with h | ⟨j,h1,h2,h3,h4⟩
   ·exact .inl h
   ·exact .inr ⟨j,h1,(F j).2 (.inl h2),h3,h4⟩
  ·obtain⟨n,h1,h2,h3⟩:=I.get q
   refine⟨n,h1,h2,λj V hT=>?_⟩
   have C:j≠i:=by intro e;subst e;exact hT (by rw[hsame])
   rw[<-h3 j V hT,F j]
   simp[C]
 have hkeyfree : ∀k:Nat,S { (⟨dep+1,0,(sts ops.size).hp.gen (dep+1) 0,0⟩:Ref)with k:=k}=none:=by
  intro k
  cases hq:S { (⟨dep+1,0,(sts ops.size).hp.gen (dep+1) 0,0⟩:Ref)with k:=k} with
  | none=>rfl
  | some l=>
   exfalso
   rcases I.hand _ (by rw[hq];simp)with h | ⟨j,h1,_,_,h4⟩
   ·have:=sx hL hrun hbf I.le (dc _) (dep+1) 0
    simp only at h
    omega
   ·have:=sx hL hrun hbf (show j+1<=ops.size from h1) (dc _) (dep+1) 0
    have:=h4.2
    simp only at this
    omega
 have quiet : ∀ {x:AV} {tm':List AV},(sts (i+1)).hp=(sts i).hp->dg nt (sts i).tm o.dst x=some (sts (i+1)).tm ->
  cE E pc true g1 tm1 ⟨dep+1,0,(sts ops.size).hp.gen (dep+1) 0,0⟩ o=some (x,[])->o.wpIn (FW ro) 0 E.P a1 w1 K Q:=by
  intro x tm' hsame hx hq
  obtain⟨G,T⟩:=ly (tm1:=tm1) hx
  refine xY (E:=E) (o:=o) I.sim O rfl hkeyfree hpc (λh=>by cases h) hq ro K Q λu w' ⟨M',Y,h1,h2,h3,h4⟩=>hK _ _ ?_
  rw[ng]at h2 h3
  obtain⟨h5,h6⟩:=(O.mono h3.mem h3.map).put hnt T h1
  refine fin u x G w' M' Y hsame hx T h5 h6 h2 h3 λq hq hn=>hq (h4 q hn (λk hk=>by simp at hk))
 have hno:wanted ops (sts i).tm o=some false->if Region.wanted o (yielded ops a1.tmps) then o.wpIn (FW ro) 0 E.P a1 w1 K Q else K (a1.put o.dst undef) w1:=by
  intro hw
  have hw1:=hw
  rw[<-hwd]at hw1
  rw[lb O hw1]
  simp only[nz,if_false]
  unfold evalOp at step
  rw[hw]at step
  simp only[bO]at step
  obtain⟨tm',ht,he⟩:=step
  have hx:dg nt (sts i).tm o.dst AV.undef=some (sts (i+1)).tm:=by rw[<-he];exact ht
  obtain⟨G,T⟩:=ly (tm1:=tm1) hx
  obtain⟨h1,h2⟩:=O.put hnt T (u:=undef) (.v rfl)
  exact hK _ _ (fin undef AV.undef G w1 M1 S (by rw[<-he]) hx T h1 h2 I.sim uh.refl λ_ h=>h)
 have maker : ∀ {d:Nat} {x:AV} {bs:List bz},3<=cls E o->(sts (i+1)).hp=keyed ⟨dep,d,(sts i).hp.gen dep d,0⟩ 0 bs (sts i).hp->dg nt (sts i).tm o.dst x=some (sts (i+1)).tm ->
  cE E pc true g1 tm1 ⟨dep,d,(sts i).hp.gen dep d,0⟩ o=some (x,bs)->(∀k,S { (⟨dep,d,(sts i).hp.gen dep d,0⟩:Ref)with k:=k}=none)->o.wpIn (FW ro) 0 E.P a1 w1 K Q:=by
  intro d x bs U hhp hx hq' hfree
  obtain⟨G,T⟩:=ly (tm1:=tm1) hx
  refine xY (E:=E) (o:=o) I.sim O rfl hfree hpc (λh=>by cases h) hq' ro K Q λu w' ⟨M',Y,h1,h2,h3,h4⟩=>hK _ _ ?_
  obtain⟨h5,h6⟩:=(O.mono h3.mem h3.map).put hnt T h1
  refine⟨hc',(put_defers _ _ _).trans hds,M',Y,G,sX g1 ⟨dep,d,(sts i).hp.gen dep d,0⟩ bs,c,uo hL.toRegB ho F hi hTS hx T,h5,h6,h2,I.fwd.trans h3,I.le,λj oj V A Z=>(F j).2 (.inl (I.cut j oj V A Z)),λq hq=>?_,λq=>?_⟩
  ·by_cases hq1:S q=none
   ·by_cases hk : ∃k,k<bs.length/\q = { (⟨dep,d,(sts i).hp.gen dep d,0⟩:Ref)with k:=k}
    ·obtain⟨k,hk,e⟩:=hk
     refine .inr ⟨i,D,(F i).2 (.inr rfl),?_,?_⟩
     ·rcases fm i c with N | N
      ·have:=I.cut i o N ho (by omega)
       rw[hi]at this;cases this
      ·exact N
     ·subst e
      refine⟨dc _,?_⟩
      simp only
      rw[hhp,ai.mo,if_pos ⟨rfl,rfl,by intro e;rw[e]at hk;simp at hk⟩]
      exact qY _
    ·exact absurd (h4 q hq1 λk hk' e=>hk ⟨k,hk',e⟩) hq
   ·rcases I.hand q hq1 with h | ⟨j,g1',g2,g3,g4⟩
    ·exact .inl h
    ·exact .inr ⟨j,g1',(F j).2 (.inl g2),g3,g4⟩
  ·by_cases hk:q.d=dep/\q.t=d/\q.g=(sts i).hp.gen dep d/\q.k<bs.length
   ·have hmk:makes sts i q:=by
     obtain⟨k1,k2,k3,k4⟩:=hk
     refine⟨by rw[k1,k2,k3];exact dc _,?_⟩
     rw[hhp,ai.mo,if_pos ⟨k1,k2,by intro e;rw[e]at k4;simp at k4⟩,k3]
     exact qY _
    refine⟨i+1,D,?_,λj V hT=>?_⟩
    ·rw[hhp,ai.mV]
     unfold sX
     rw[if_pos hk,if_pos hk]
    ·rw[F j]
     by_cases C:j=i
     ·subst C;simp
     ·have A:=jY V
      have hturn:turns sts i q:=by
       obtain⟨k1,k2,k3,k4⟩:=hk
       intro e
       have h5:(sts i).hp.get q≠none:=by
        rw[<-e,hhp,ai.mV]
        unfold sX
        rw[if_pos ⟨k1,k2,k3,k4⟩,fc k4]
        simp
       have:=N2 hL hrun hbf hS0 hD0 (iF D) q h5
       rw[k1,k2,k3]at this
       exact absurd this (Bl _)
      have hnot : ¬j<i:=by
       intro hji'
       obtain⟨k1,k2,k3,k4⟩:=hk
       have hlive : ∀m,m<=i->(sts m).hp.get q≠none->False:=by
        intro m hm R
        have h6:=N2 hL hrun hbf hS0 hD0 (Bk hm (iF D)) q R
        have h7:=sx hL hrun hbf hm (iF D) q.d q.t
        rw[k1,k2]at h6 h7
        rw[k3]at h6
        omega
       by_cases h8:(sts j).hp.get q=none
       ·exact hlive (j+1) hji' (λh9=>hT (by rw[h8,h9]))
       ·exact hlive j (iF hji') h8
      have:(L j=true↔j<i):=by
       obtain⟨n',k1,k2,k3⟩:=I.get q
       have h9:=k3 i D hturn
       rw[hi]at h9
       have h10:=k3 j V hT
       rw[h10]
       constructor
       ·intro h11
        have : ¬i<n':=λh=>by simpa using h9.2 h
        omega
       ·intro h11;exact absurd h11 hnot
      rw[this]
      constructor
      ·rintro(h | h)
       ·omega
       ·exact absurd h C
      ·intro h;left;omega
   ·obtain⟨n',k1,k2,k3⟩:=I.get q
    refine⟨n',k1,?_,λj V hT=>?_⟩
    ·unfold sX;rw[if_neg hk];exact k2
    ·have C:j≠i:=by
      intro e;subst e
      refine hT ?_
      rw[hhp,ai.mV]
      unfold sX
      rw[if_neg hk]
     rw[<-k3 j V hT,F j]
     simp[C]
 cases hwt:wanted ops (sts i).tm o with
 | none=>unfold evalOp at step;rw[hwt]at step;cases step
 | some b=>
 cases b with
 | false=>exact hno hwt
 | true=>
 have hw1:=hwt
 rw[<-hwd]at hw1
 have hcs:cls E o=0\/cls E o=1\/cls E o=2\/cls E o=3\/cls E o=4:=by omega
 rcases hcs with U | U | U | U | U
 ·
  rw[lb O hw1]
  simp only[if_true]
  have hh:=Hh U
  rcases ov step with ⟨hw,_,_,_⟩ | ⟨hw,x,bs,hq,tm',ht,he⟩ | hwk
  ·rw[hwt]at hw;cases hw
  ·obtain⟨hbs,hall⟩:=xQ hh hq
   subst hbs
   exact quiet (tm':=tm') (AX (.inl U) step) (by rw[he];exact ht) (by rw[tN hag];exact hall _ _)
  ·rw[gG hwk]at hh;cases hh
 ·
  rw[lb O hw1]
  simp only[if_true]
  obtain⟨t,J,hst,hwk⟩:=Kr U
  rcases ov step with ⟨hw,_,_,_⟩ | ⟨hw,x,bs,hq,tm',ht,he⟩ | hwk'
  ·rw[hwt]at hw;cases hw
  ·obtain⟨hbs,hall⟩:=look_nil J hq
   subst hbs
   refine quiet (tm':=tm') (AX (.inr U) step) (by rw[he];exact ht) ?_
   rw[tN hag]
   refine hall g1 _ λq hrq R=>?_
   refine(IB hL hrun hbf hS0 hD0 hap hsf hc I ho hi hed (.inl U) hst hrq R ?_).1
   have ht1:dH tm1 t=dH (sts i).tm t:=by
    refine hlook t ?_
    unfold Oper.looksAt
    refine NI _ (List.mem_filterMap.2 ⟨.tmp t,?_,rfl⟩)
    unfold BA at J
    split at J
    ·rename_i W;cases J;rw[W];simp[Op.operands]
    ·rename_i W;cases J;rw[W];simp[Op.operands]
    ·rename_i W;cases J;rw[W];simp[Op.operands]
    ·rename_i W
     split at J
     ·cases J
     ·cases J;rw[W];simp[Op.operands]
    ·rename_i W;cases J;rw[W];simp[Op.operands]
    ·rename_i c W
     split at J
     ·split at J
      ·rename_i hargs
       cases J
       rw[W]
       have:(Operand.tmp t)∈c.args:=by rw[<-Array.mem_toList_iff,hargs];simp
       simp only[Op.operands,Call.operands]
       simp[this]
      ·cases J
     ·cases J
    ·cases J
   have hv:=O.at_ t
   rw[ht1]at hv
   revert hrq hv
   generalize dH (sts i).tm t=v
   generalize a1.tmps.getD t undef=u
   intro hrq hv
   cases hv with
   | ptr hr hzl=>cases hrq;rw[hr];simp
   | cL hr=>cases hrq;rw[hr];simp
   | mp hr=>cases hrq;rw[hr];simp
   | ch hr=>cases hrq;rw[hr];simp
   | _=>cases hrq
  ·rw[hwk]at hwk';cases hwk'
 ·
  rw[lb O hw1]
  simp only[if_true]
  obtain⟨ty,t,xo,r,i',j',b,x,n,es',W,hs,hta,hb,harr,hfr,hxo,hn,hxn,hx1,hes,he,hx⟩:=PC hL hrun hbf hS0 hD0 hsf ho U hwt
  have hmem : ∀y,y = .tmp t\/y=xo->aO tm1 y=aO (sts i).tm y:=by
   intro y hy
   refine hag y ?_
   rw[W]
   rcases hy with rfl | rfl<;>simp[Op.operands]
  have hpv:=aY O (x := .tmp t) (y := .ptr r i' j') (by rw[hmem _ (.inl rfl)];simp only[aO,hta])
  have hxv:=aY O (x:=xo) (y:=x) (by rw[hmem _ (.inr rfl)];exact hxo)
  have hhand:S r≠none:=by
   revert hpv
   generalize a1.eval (.tmp t)=u
   intro hpv
   cases hpv with | ptr hr hzl=>rw[hr];simp
  obtain⟨hg,hord⟩:=IB hL hrun hbf hS0 hD0 hap hsf hc I ho hi hed (.inr U) hs (q:=r) (by rw[hta];rfl) (by rw[hb];simp) hhand
  rw[hb]at hg
  obtain⟨w',hr,hS',hF'⟩:=Le (P:=E.P) I.sim hn hpv hxv hg hxn hx1 hfr harr hes
  obtain⟨G,T⟩:=ly (tm1:=tm1) hx
  have hok:eM E.P o a1 w1 λu w2=>u=undef/\w2=w':=eM.Fe (by simp[execOp,W,hr]) ⟨rfl,rfl⟩
  refine hok ro K Q λu w2 ⟨e1,e2⟩=>hK _ _ ?_
  subst e1;subst e2
  obtain⟨h5,h6⟩:=(O.mono hF'.mem hF'.map).put hnt T (u:=undef) (.v rfl)
  refine⟨hc',(put_defers _ _ _).trans hds,M1,S,G,lI g1 r { b with es:=es'},c,uo hL.toRegB ho F hi hTS hx T,h5,h6,hS',I.fwd.trans hF',I.le,λj oj V A Z=>(F j).2 (.inl (I.cut j oj V A Z)),λq hq=>?_,λq=>?_⟩
  ·rcases I.hand q hq with h | ⟨j,h1,h2,h3,h4⟩
   ·exact .inl h
   ·exact .inr ⟨j,h1,(F j).2 (.inl h2),h3,h4⟩
  ·by_cases hqr:q=r
   ·subst hqr
    refine⟨i+1,D,?_,λj V hT=>?_⟩
    ·rw[he,ai.get_put,if_pos rfl];unfold lI;rw[if_pos rfl]
    ·rw[F j]
     by_cases C:j=i
     ·subst C;simp
     ·rw[hord j V hT]
      constructor
      ·rintro(h | h)
       ·omega
       ·exact absurd h C
      ·intro h;left;omega
   ·obtain⟨n',h1,h2,h3⟩:=I.get q
    refine⟨n',h1,?_,λj V hT=>?_⟩
    ·unfold lI;rw[if_neg hqr];exact h2
    ·have C:j≠i:=by
      intro e;subst e
      refine hT ?_
      rw[he,ai.get_put,if_neg hqr]
     rw[<-h3 j V hT,F j]
     simp[C]
 ·
  rw[lb O hw1]
  simp only[if_true]
  obtain⟨hh,hwk⟩:=Bb U
  rcases ov step with ⟨hw,_,_,_⟩ | ⟨hw,x,bs,hq,tm',ht,he⟩ | hwk'
  ·rw[hwt]at hw;cases hw
  ·obtain⟨d,hd⟩:=gI.1 (hL.made i o ho U)
   rw[hd,cX]at hq he
   have hx:dg nt (sts i).tm o.dst x=some (sts (i+1)).tm:=by rw[he];exact ht
   obtain⟨G,T⟩:=ly (tm1:=tm1) hx
   have hhp:(sts (i+1)).hp=keyed ⟨dep,d,(sts i).hp.gen dep d,0⟩ 0 bs (sts i).hp:=by rw[he]
   have hloc:blind E o=false->Dn S (sts i).hp.get g1:=by
    intro hbl q b hg R
    rw[<-hg]
    refine I.Nd (iF D) λj V hT=>?_
    have A:=jY V
    rcases Gn hL hrun hbf hS0 hD0 hsf A hT with hm | ⟨Z,_⟩
    ·exact CT hL hrun hbf hS0 hD0 I D hi (by rw[hg];simp) R V hm
    ·exact tG hL hc ho hi hed (by omega) A (.inl hbl) ⟨RP hbl,oJ (by omega)⟩ (by omega)
   rw[<-tN hag]at hq
   have hq':cE E pc true g1 tm1 ⟨dep,d,(sts i).hp.gen dep d,0⟩ o=some (x,bs):=by
    cases hbl:blind E o with
    | true=>exact Vp hbl hq
    | false=>exact D5 I.sim (hloc hbl) O hq
   have hfree : ∀k,S { (⟨dep,d,(sts i).hp.gen dep d,0⟩:Ref)with k:=k}=none:=by
    intro k
    cases hqk:S { (⟨dep,d,(sts i).hp.gen dep d,0⟩:Ref)with k:=k} with
    | none=>rfl
    | some l=>
     exfalso
     rcases I.hand _ (by rw[hqk];simp)with h | ⟨j,h1,h2,h3,h4⟩
     ·simp only at h
      rcases fm i c with N | N
      ·have:=I.cut i o N ho (by omega)
       rw[hi]at this;cases this
      ·have:=sx hL hrun hbf N (iF D) dep d
       omega
     ·have A:=jY h1
      have h5:=h4.1;have h6:=h4.2
      simp only at h5 h6
      rcases Ip j i with C | C | C
      ·have:=sx hL hrun hbf (show j+1<=i from C) (iF D) dep d
       omega
      ·subst C;rw[hi]at h2;cases h2
      ·have Z:=Ax hL hrun hbf A h4
       have hc4:cls E ops[j]=3\/cls E ops[j]=4:=by have:=Ea E ops[j];omega
       rcases hc4 with hc3 | hc4
       ·
        obtain⟨dj,hdj⟩:=gI.1 (hL.made j _ A hc3)
        have hstepj:=hrun j _ A
        have R:d≠dj:=by
         intro e
         have:=hL.distinct i j o ops[j] d ho A hd (by rw[hdj,e])
         omega
        rcases ov hstepj with ⟨_,_,_,he2⟩ | ⟨_,_,bs2,_,_,_,he2⟩ | hwk2
        ·rw[he2]at h6;dsimp only at h6;omega
        ·rw[he2]at h6
         simp only[hdj,cX]at h6
         rw[ai.mo,if_neg (by intro hcc;exact R hcc.2.1)]at h6
         omega
        ·rw[(Bb hc3).2]at hwk2;cases hwk2
       ·cases hha:oK E o ops[j] with
        | true=>
         have R:=O0 (E:=E) (xi.1 hha).1 hq
         have hmk:makes sts i { (⟨dep,d,(sts i).hp.gen dep d,0⟩:Ref)with k:=k}:=⟨dc _,by
          simp only
          rw[hhp,ai.mo,if_pos ⟨rfl,rfl,R⟩]
          exact qY _⟩
         have:=DV hL hrun hbf h1 D h4 hmk
         omega
        | false=>
         have:=(tG hL hc ho hi hed (by omega) A (.inr (by omega)) ⟨hha,oJ (by omega)⟩ (.inr (.inl hc4))).1 h2
         omega
   exact maker (by omega) hhp hx hq' hfree
  ·rw[hwk]at hwk';cases hwk'
 ·
  have hb4:blind E o=false:=by unfold blind;rw[U];rfl
  cases hat:((Ho o.op).isSome&&o.dst.isSome) with
  | true=>
   rw[lb O hw1]
   simp only[if_true]
   obtain⟨hat1,hat2⟩:=xi.1 hat
   obtain⟨t,ht⟩:=gI.1 hat1
   obtain⟨d,hd⟩:=gI.1 hat2
   have hloc:Dn S (sts i).hp.get g1:=by
    intro q b hg R
    rw[<-hg]
    refine I.Nd (iF D) λj V hT=>?_
    have A:=jY V
    rcases Gn hL hrun hbf hS0 hD0 hsf A hT with hm | ⟨Z,_⟩
    ·exact CT hL hrun hbf hS0 hD0 I D hi (by rw[hg];simp) R V hm
    ·exact tG hL hc ho hi hed (by omega) A (.inl hb4) ⟨oJ (by omega),oJ (by omega)⟩ (by omega)
   rcases QJ ht hwt step with ⟨x,bs,tm',hq,hx,he⟩ | ⟨c',y,z,x,W,hcal,hargs,hA,hy,hx⟩
   ·rw[hd,cX]at hq he
    have hx2:dg nt (sts i).tm o.dst x=some (sts (i+1)).tm:=by rw[he];exact hx
    have hhp:(sts (i+1)).hp=keyed ⟨dep,d,(sts i).hp.gen dep d,0⟩ 0 bs (sts i).hp:=by rw[he]
    rw[<-tN hag]at hq
    refine maker (by omega) hhp hx2 (D5 I.sim hloc O hq) λk=>?_
    cases hqk:S { (⟨dep,d,(sts i).hp.gen dep d,0⟩:Ref)with k:=k} with
    | none=>rfl
    | some l=>
     exfalso
     rcases I.hand _ (by rw[hqk];simp)with h | ⟨j,h1,h2,h3,h4⟩
     ·simp only at h
      rcases fm i c with N | N
      ·have:=I.cut i o N ho (by omega)
       rw[hi]at this;cases this
      ·have:=sx hL hrun hbf N (iF D) dep d
       omega
     ·have A:=jY h1
      have h5:=h4.1;have h6:=h4.2
      simp only at h5 h6
      rcases Ip j i with C | C | C
      ·have:=sx hL hrun hbf (show j+1<=i from C) (iF D) dep d
       omega
      ·subst C;rw[hi]at h2;cases h2
      ·have Z:=Ax hL hrun hbf A h4
       have hc4:cls E ops[j]=3\/cls E ops[j]=4:=by have:=Ea E ops[j];omega
       rcases hc4 with hc3 | hc4
       ·obtain⟨dj,hdj⟩:=gI.1 (hL.made j _ A hc3)
        have hstepj:=hrun j _ A
        have R:d≠dj:=by
         intro e
         have:=hL.distinct i j o ops[j] d ho A hd (by rw[hdj,e])
         omega
        rcases ov hstepj with ⟨_,_,_,he2⟩ | ⟨_,_,bs2,_,_,_,he2⟩ | hwk2
        ·rw[he2]at h6;dsimp only at h6;omega
        ·rw[he2]at h6
         simp only[hdj,cX]at h6
         rw[ai.mo,if_neg (by intro hcc;exact R hcc.2.1)]at h6
         omega
        ·rw[(Bb hc3).2]at hwk2;cases hwk2
       ·have:=(tG hL hc ho hi hed (by omega) A (.inr (by omega)) ⟨oJ (by omega),oJ (by omega)⟩ (.inr (.inl hc4))).1 h2
        omega
   ·
    have hmapM:c'.args.toList.mapM (aO tm1)=some [y,z]:=by
     rw[<-hargs]
     refine mapM_congr λa ha=>hag a ?_
     rw[W]
     have:a∈c'.args:=by simpa using ha
     simp[Op.operands,Call.operands,this]
    have hvs:=np O hmapM
    obtain⟨u,v,hu1⟩:=z7 hvs.1.symm
    rw[hu1]at hvs
    have vy:=hvs.2 0 y u rfl rfl
    have vz:=hvs.2 1 z v rfl rfl
    have hnew0 : ∀r',jA y=some r'->(sts i).hp.get r'≠none->makes sts i ⟨r'.d,r'.t,(sts i).hp.gen r'.d r'.t,0⟩:=by
     intro r' hr' R
     obtain⟨r2,b2,z2,es2,f2,e1,e2,e3,e4⟩:=Bq hA
     rw[hr']at e1;cases e1
     refine⟨dc _,?_⟩
     simp only
     rw[e4,KB (by rw[e2];rfl),if_pos ⟨rfl,rfl⟩]
     exact qY _
    have hrefs : ∀r',jA y=some r'->S r'≠none:=by
     intro r' hr'
     revert vy hr'
     generalize y=v
     intro vy hr'
     cases vy with
     | ptr hr hzl=>cases hr';rw[hr];simp
     | cL hr=>cases hr';rw[hr];simp
     | mp hr=>cases hr';rw[hr];simp
     | ch hr=>cases hr';rw[hr];simp
     | _=>cases hr'
    obtain⟨r',b,k',e1,e2,hqr,e3,u',w',Y,hr',hv',hS',hF',hι'⟩:=KW (P:=E.P) (ty:=o.type) (H:=(sts i).hp) I.sim vy vz (λr' hr' R=>by
     cases hb:(sts i).hp.get r' with
     | none=>exact absurd hb R
     | some b=>exact hloc r' b hb (hrefs r' hr')) (λe p hp=>IT hloc vz hp) (λr' hr' R=>by
     cases hqk:S ⟨r'.d,r'.t,(sts i).hp.gen r'.d r'.t,0⟩ with
     | none=>rfl
     | some l=>
      exfalso
      rcases I.hand _ (by rw[hqk];simp)with h | ⟨j,h1,h2,h3,h4⟩
      ·simp only at h
       rcases fm i c with N | N
       ·have:=I.cut i o N ho (by omega)
        rw[hi]at this;cases this
       ·have:=sx hL hrun hbf N (iF D) r'.d r'.t
        omega
      ·have:=DV hL hrun hbf h1 D h4 (hnew0 r' hr' R)
       subst this
       rw[hi]at h2;cases h2) hA
    have hmk:=hnew0 r' e1 (by rw[e2];simp)
    obtain⟨G,T⟩:=ly (tm1:=tm1) hx
    have hok:eM E.P o a1 w1 λu2 w2=>u2=u'/\w2=w':=by
     refine eM.of_run ?_ ⟨rfl,rfl⟩
     have hsame:c'.args.map a1.eval = #[u,v]:=by
      apply Js.1
      rw[Array.toList_map,hu1]
     simp only[execOp,W,resolve,hcal,invoke,Sem.run_bind,Sem.run_pure,Result.andThen_ok,hsame]
     show(do pure (Next.value (<-Builtin.append_ c'.argTypes o.type #[u,v])):Sem Next).run E.P w1=_
     exact IL hr'
    refine hok ro K Q λu2 w2 ⟨f1,f2⟩=>hK _ _ ?_
    subst f1;subst f2
    obtain⟨h5,h6⟩:=(O.mono hF'.mem hF'.map).put hnt T hv'
    refine⟨hc',(put_defers _ _ _).trans hds,M1,Y,G,_,c,uo hL.toRegB ho F hi hTS hx T,h5,h6,hS',I.fwd.trans hF',I.le,λj oj V A Z=>(F j).2 (.inl (I.cut j oj V A Z)),λq hq=>?_,λq=>?_⟩
    ·by_cases X:q=⟨r'.d,r'.t,(sts i).hp.gen r'.d r'.t,0⟩
     ·refine .inr ⟨i,D,(F i).2 (.inr rfl),?_,by rw[X];exact hmk⟩
      rcases fm i c with N | N
      ·have:=I.cut i o N ho (by omega)
       rw[hi]at this;cases this
      ·exact N
     ·by_cases hq1:S q=none
      ·exact absurd (hι' q hq1 X) hq
      ·rcases I.hand q hq1 with h | ⟨j,g1',g2,g3,g4⟩
       ·exact .inl h
       ·exact .inr ⟨j,g1',(F j).2 (.inl g2),g3,g4⟩
    ·have hat3:(sts (i+1)).hp.get q=lI (sE (sts i).hp.get r') ⟨r'.d,r'.t,(sts i).hp.gen r'.d r'.t,0⟩ k' q:=by rw[e3,get_append _ _ _ _ hqr]
     by_cases X:q=⟨r'.d,r'.t,(sts i).hp.gen r'.d r'.t,0⟩
     ·refine⟨i+1,D,by rw[hat3];unfold lI;rw[if_pos X,if_pos X],λj V hT=>?_⟩
      rw[F j]
      by_cases C:j=i
      ·subst C;simp
      ·have hturn:turns sts i q:=by
        intro e
        have h5:(sts i).hp.get q≠none:=by
         rw[<-e,hat3];unfold lI;rw[if_pos X];simp
        have:=N2 hL hrun hbf hS0 hD0 (iF D) q h5
        rw[X]at this
        exact absurd this (Bl _)
       have hnot : ¬j<i:=by
        intro hji'
        have hlive : ∀m,m<=i->(sts m).hp.get q≠none->False:=by
         intro m hm R
         have h6:=N2 hL hrun hbf hS0 hD0 (Bk hm (iF D)) q R
         have h7:=sx hL hrun hbf hm (iF D) q.d q.t
         rw[X]at h6 h7
         simp only at h6 h7
         omega
        by_cases h8:(sts j).hp.get q=none
        ·exact hlive (j+1) hji' (λh9=>hT (by rw[h8,h9]))
        ·exact hlive j (iF hji') h8
       have:(L j=true↔j<i):=by
        obtain⟨n',k1,k2,k3⟩:=I.get q
        have h9:=k3 i D hturn
        rw[hi]at h9
        have h10:=k3 j V hT
        rw[h10]
        constructor
        ·intro h11
         have : ¬i<n':=λh=>by simpa using h9.2 h
         omega
        ·intro h11;exact absurd h11 hnot
       rw[this]
       constructor
       ·rintro(h | h)
        ·omega
        ·exact absurd h C
       ·intro h;left;omega
     ·by_cases hqr2:q=r'
      ·refine⟨i+1,D,by rw[hat3];unfold lI sE;rw[if_neg X,if_neg X,if_pos hqr2,if_pos hqr2],λj V hT=>?_⟩
       rw[F j]
       by_cases C:j=i
       ·subst C;simp
       ·have A:=jY V
        have:(L j=true↔j<i):=by
         rcases Gn hL hrun hbf hS0 hD0 hsf A hT with hm | ⟨Z,_⟩
         ·exact CT hL hrun hbf hS0 hD0 I D hi (by rw[hqr2,e2];simp) (by rw[hqr2];exact hrefs r' e1) V hm
         ·exact tG hL hc ho hi hed (by omega) A (.inl hb4) ⟨oJ (by omega),oJ (by omega)⟩ (by omega)
        rw[this]
        constructor
        ·rintro(h | h)
         ·omega
         ·exact absurd h C
        ·intro h;left;omega
      ·obtain⟨n',k1,k2,k3⟩:=I.get q
       refine⟨n',k1,?_,λj V hT=>?_⟩
       ·unfold lI sE;rw[if_neg X,if_neg hqr2];exact k2
       ·have C:j≠i:=by
         intro e;subst e
         refine hT ?_
         rw[hat3];unfold lI sE;rw[if_neg X,if_neg hqr2]
        rw[<-k3 j V hT,F j]
        simp[C]
  | false=>
  have hha : ∀oj,oK E o oj=false/\oK E oj o=false:=λoj=>⟨oJ (by omega),RQ hat⟩
  have hall : ∀q j,j<ops.size->turns sts j q->(L j=true↔j<i):=by
   intro q j V hT
   have A:=jY V
   refine tG hL hc ho hi hed (by omega) A (.inl hb4) (hha _) ?_
   rcases Gn hL hrun hbf hS0 hD0 hsf A hT with hm | ⟨Z,_⟩
   ·exact .inr (.inr ⟨U,Ax hL hrun hbf A hm⟩)
   ·omega
  have hg:g1=(sts i).hp.get:=funext λq=>I.Nd (iF D) (hall q)
  have hD:uK S (sts i).hp:=by
   intro q l hq
   rcases I.hand q (by rw[hq];simp)with h | ⟨j,h1,h2,h3,h4⟩
   ·rcases fm i c with N | N
    ·have:=I.cut i o N ho (by omega)
     rw[hi]at this;cases this
    ·exact Ep h (sx hL hrun hbf N (iF D) _ _)
   ·have A:=jY h1
    have C:=(tG hL hc ho hi hed (by omega) A (.inl hb4) (hha _) (.inr (.inr ⟨U,Ax hL hrun hbf A h4⟩))).1 h2
    exact Ep h4.2 (sx hL hrun hbf (show j+1<=i from C) (iF D) _ _)
  have hO:Ac M1 S ⟨tm1,(sts i).hp⟩ nt a1 w1:=⟨by rw[<-hg];exact I.sim,hD,O,hnt⟩
  obtain⟨x,G,hx,T,hev⟩:=Ja hlook step
  refine D6 (E:=E) (Q:=Q) hO hpc htc (λh=>by cases h) (.inl rfl) hev λa' w' ⟨⟨M',Y,hO',hF'⟩,hd'⟩=>hK a' w' ⟨hc',hd'.trans hds,M',Y,G,(sts (i+1)).hp.get,i+1,uo hL.toRegB ho F hi hTS hx T,hO'.tr,hO'.nt,hO'.sim,?_,D,?_,?_,?_⟩
  ·have:=I.fwd
   rw[hg]at this
   exact this.trans hF'
  ·intro j oj V A Z
   by_cases C:j=i
   ·exact(F j).2 (.inr C)
   ·exact(F j).2 (.inl ((tG hL hc ho hi hed (by omega) A (.inl hb4) (hha _) (.inr (.inr ⟨U,Z⟩))).2 (by omega)))
  ·intro q hq
   cases X:Y q with
   | none=>exact absurd X hq
   | some l=>exact .inl (hO'.dom q l X)
  ·intro q
   refine⟨i+1,D,rfl,λj V hT=>?_⟩
   rw[F j]
   by_cases C:j=i
   ·subst C;simp
   ·rw[hall q j V hT]
    constructor
    ·rintro(h | h)
     ·omega
     ·exact absurd h C
    ·intro h;left;omega
omit hS0 hD0 hap hsf in
theorem Mf{L:Nat->Bool}(d : ∀i,i<ops.size->L i=true){a a1:Act}{D:World}(v:a.defers=ds)(G:VH E nt ops sts M ι w ds L a1 D):la M ι (sts 0) a w nt (sts ops.size) a1 D:=by
 obtain⟨O,n,F,m,tm1,K,c,p,A,y,g⟩:=G
 have u : ∀t,dH tm1 t=dH (sts ops.size).tm t:=by
  intro t
  obtain⟨x,N⟩:=p t
  obtain⟨I,z⟩:=JN hL.toRegB hrun ops.size (dc _) t
  by_cases e : ∃j,j<ops.size/\iY ops j=some t
  ·obtain⟨j,b,f⟩:=e
   rw[x j b (d j b) f,I j b (by simpa using b) f]
  ·rw[N λj b _ f=>e ⟨j,b,f⟩,z λj b _ f=>e ⟨j,b,f⟩]
 have k:TR F m (sts ops.size).tm a1:=⟨λt=>by rw[<-u];exact A.at_ t⟩
 have C:K=(sts ops.size).hp.get:=funext λq=>g.Nd (dc _) λj b _=>⟨λ_=>b,λ_=>d j b⟩
 refine⟨⟨F,m,⟨by rw[<-C];exact g.sim,?_,k,y⟩,by rw[<-C];exact g.fwd⟩,n.trans v.symm⟩
 intro q l J
 rcases g.hand q (by rw[J];simp)with h | ⟨j,x,_,_,z⟩
 ·exact Ep h (sx hL hrun hbf g.le (dc _) _ _)
 ·exact Ep z.2 (sx hL hrun hbf (show j+1<=ops.size from x) (dc _) _ _)
theorem W9(R : ∀f xs y,pc f xs=some y->cW E.P f xs y)(V : ∀f xs H y H',tc f xs H=some (y,H')->sh E.P f xs H y H'){ro:Option Nat}{a0:Act}(u:a0.defers=ds){Q:Exit->Act->World->Prop}
 (X : ∀I w',la M ι (sts 0) a0 w nt (sts ops.size) I w'->Q .normal I w') : ∀(b:Nat)(a:Array Bool)(a1:Act)(G:World),a.size=ops.size ->
 (List.range ops.size).countP (λi => !a.getD i false)<=b->VH E nt ops sts M ι w ds (λi=>a.getD i false) a1 G->wpAnyIn (FW ro) 0 E.P .any ops Q b a a1 G:=by
 have B2 : ∀ {a:Array Bool},a.size=ops.size->Region.ready .any ops a=[] ->∀i,i<ops.size->a.getD i false=true:=by
  intro a k h i
  induction i using Nat.strongRecOn with | ind i T=>
  intro g
  cases z:a.getD i false with
  | true=>rfl
  | false=>
   exfalso
   have l:=jY g
   have U:a.getD i true=false:=by
    have:i<a.size:=by omega
    simpa [Array.getD,this] using z
   have:i∈Region.ready .any ops a:=by
    rw[mem_ready]
    refine⟨U,_,l,λe J Y=>?_⟩
    have x:e.on∈eI ops[i]:=by
     unfold eI
     exact tY.2 ⟨e,FI.2 ⟨by simpa using J,Y⟩,rfl⟩
    have c:=hL.edges i _ l _ x
    exact T e.on c (by omega)
   rw[h]at this
   cases this
 intro b
 induction b with
 | zero=>
  intro a a1 G k hf D
  have m : ∀i,i<ops.size->a.getD i false=true:=by
   intro i g
   cases z:a.getD i false with
   | true=>rfl
   | false=>
    exfalso
    have:0<(List.range ops.size).countP (λi => !a.getD i false):=List.countP_pos_iff.2 ⟨i,xf.2 g,by rw[z];rfl⟩
    omega
  refine⟨?_,X _ _ (Mf hL hrun hbf m u D)⟩
  refine SB.2 λi g=>?_
  rw[mem_ready]at g
  obtain⟨C,o,l,_⟩:=g
  have c:i<ops.size:=(iG.1 l).1
  have F:=m i c
  have:i<a.size:=by omega
  simp[Array.getD,this]at C F
  rw[F]at C
  cases C
 | succ b T=>
  intro a a1 G k hf D
  refine⟨λhr=>X _ _ (Mf hL hrun hbf (B2 k hr) u D),λi g=>?_⟩
  rw[mem_ready]at g
  obtain⟨C,o,l,S⟩:=g
  have c:i<ops.size:=(iG.1 l).1
  have v:i<a.size:=by omega
  have A:a.getD i false=false:=by simpa [Array.getD,v] using C
  have n : ∀e∈eI o,(λi=>a.getD i false) e=true:=by
   intro e J
   unfold eI at J
   obtain⟨d,Z,rfl⟩:=tY.1 J
   obtain⟨F,h2⟩:=FI.1 Z
   exact S d (by simpa using F) h2
  have q : ∀j,(λj=>(a.setIfInBounds i true).getD j false) j=true↔((λj=>a.getD j false) j=true\/j=i):=by
   intro j
   simp only
   by_cases t:j=i
   ·subst t
    simp[v]
   ·rw[getD_set_ne false (sL t)]
    simp[t]
  have:=RI (E:=E) (tc:=tc) (ro:=ro) (K:=wpAnyIn (FW ro) 0 E.P .any ops Q b (a.setIfInBounds i true)) (Q:=Q) hL hrun hbf hS0 hD0 hap hsf R V (L:=λi=>a.getD i false) l A n q D λI w' O=>by
   refine T _ I w' (by simp[k]) ?_ O
   have:=EL (p:=λj => !a.getD j false) (p':=λj => !(a.setIfInBounds i true).getD j false) (i:=i) (λj W=>by
    simp only[dV]at W ⊢
    cases z:a.getD j false with
    | false=>rfl
    | true=>have:=(q j).2 (.inl z);simp only at this;rw[this]at W;cases W) (by simp only[A,Fm]) (by have:=(q i).2 (.inr rfl);simp only at this ⊢;rw[this];rfl) (List.range ops.size) (xf.2 c)
   omega
  unfold wpOpIn
  rw[l]
  simp only
  split
  ·rename_i N
   rw[if_pos N]at this
   exact this
  ·rename_i N
   rw[if_neg N]at this
   exact⟨λ_ _=>trivial,this⟩
end
theorem Ve{E:Env}(F:E.P.follows .mixedOrders=true){ops:Array Oper}(c:UE E ops=true){pc:FuncId->List AV->Option AV}(v : ∀f xs y,pc f xs=some y->cW E.P f xs y)
 {tc:xb->List AV->ai->du} (x : ∀f xs H y H',tc f xs H=some (y,H')->sh E.P f xs H y H') {nt dep id:Nat} {st b:St} {M:Mem} {ι:Map} {a:Act} {w:World} {ro:Option Nat} {Q:Exit->Act->World->Prop}
 (h:nu E pc tc nt dep true ops ops.toList st=some b) (hap:tj E ops b=true) (e:Ac M ι st nt a w) (I : ∀A w',la M ι st a w nt b A w'->Q .normal A w'):(Code.region id ops true).wpIn (FW ro) 0 E.P Q a w:=by
 obtain⟨sts,G,z,D⟩:=GA ops.toList st b h
 rw[Cg]at z
 have hL:=W5 c
 have hrun : ∀i o,ops[i]?=some o->evalOp E pc tc nt dep true ops o (sts i)=some (sts (i+1)):=λi o C=>D i o (by simpa using C)
 subst G
 subst z
 have n:(rM E ops).isEmpty=false:=by
  unfold UE at c
  rw[bh]at c
  simpa using c.1
 unfold tj at hap
 rw[n,Dt,bh,bh]at hap
 refine wpIn_region_any F ?_
 have u:uh M ι (sts 0).hp.get w M ι (sts 0).hp.get { w with drawn:=w.drawn+1} :=
  ⟨rfl,rfl,rfl,dc _,λ_ _ _=>rfl,λ_ _ _ h=>h,λ_ _ h=>h,λr k l h K => .inr ⟨r,k,l,h,K,rfl⟩,λ_ _ _ h => .inl h⟩
 have d : ∀i,(Array.replicate ops.size false).getD i false=false:=by
  intro i
  simp only[Et,NP]
  split<;>rfl
 refine W9 (tc:=tc) (M:=M) (ι:=ι) (w:=w) (a0:=a) hL hrun hap.2.2 e.sim e.dom hap.1 hap.2.1 v x rfl I ops.size _ a _ (by simp) ?_ ?_
 ·exact Bk List.countP_le_length (by simp)
 ·refine⟨λi o p=>?_,rfl,M,ι,(sts 0).tm,(sts 0).hp.get,0,?_,e.tr,e.nt,e.sim.drew rfl,u,Dr _,λj o m=>absurd m (Nat.not_lt_zero _),λq J=>?_,λq=>⟨0,Dr _,rfl,λj _ _=>⟨λm=>?_,λm=>absurd m (Nat.not_lt_zero _)⟩⟩⟩
  ·exact absurd ((d i).symm.trans p) (by simp)
  ·exact λt=>⟨λi _ p=>absurd ((d i).symm.trans p) (by simp),λ_=>rfl⟩
  ·cases g:ι q with
   | none=>exact absurd g J
   | some l=>exact .inl (e.dom q l g)
  ·exact absurd ((d j).symm.trans m) (by simp)
end Go.Ab
namespace Go.Ab
open Go.ChangeShapes Go.WideShapes Go.RowKit
structure Kept (W W':World):Prop where
 os:W'.os=W.os
 output:W'.output=W.output
 size:W.heap.size<=W'.heap.size
 old : ∀b,b<W.heap.size->W'.heap[b]?=W.heap[b]?
theorem Kept.keptBut{W c:World}(h:Kept W c)(a:MemPlace->Prop):W.keptBut c a:=by
 refine⟨h.os,h.output,λi b=>?_⟩
 rw[h.old i b]
 have:=jY b
 rw[this]
 cases W.heap[i]<;>simp
theorem Kept.frozen{W b:World}(h:Kept W b){a:Addr}(c:a.block<W.heap.size):b.frozen? a=W.frozen? a:=by
 unfold World.frozen?
 rw[h.old _ c]
theorem Kept.same{W a:World}(h:Kept W a){p:MemPlace}(hp:p.block<W.heap.size):W.sameAt a p:=by
 cases p with
 | cell b off=>exact World.cell?_of_block (h.old b hp)
 | map b=>exact h.old b hp
section
variable{H:Type}{enc:TypeId × Value->H}{P:Program}
theorem JO{T:TypeId->Prop}(K:Kids P T)(G : ∀t e,T t->P.underlying t=some (.slice e)->0<P.cellsOf e){W m:World}(z:Kept W m){l:Nat->Bool}{a:Nat} : ∀ {b:List TypeId} {c:List Value} {ds:List (DataW H)} {ps:List MemPlace},(∀t∈b,T t) ->
 DataW.TrodAll enc P W a (λ_=>true) true b c ds ps->(∀p∈ps,l p.block=true)->DataW.TrodAll enc P m a l true b c ds ps:=by
 intro b c ds ps k h g
 have j:=h.respare K G k g
 have u:=h.lt
 clear h g k
 induction b generalizing c ds ps with
 | nil=>
  obtain⟨rfl,rfl,rfl⟩:=trodAll_nil j
  exact trodAll_mk0
 | cons t b C=>
  obtain⟨v,A,d,D,p,q,rfl,rfl,rfl,⟨n,y⟩,F⟩:=trodAll_cons j
  refine⟨p,q,⟨n,DataW.trod_carry n t _ _ y λx f=>z.same (u x (NI _ f))⟩,C F λx f=>u x (List.mem_append_right _ f),rfl⟩
theorem Ry{T:TypeId->Prop}(K:Kids P T)(Y : ∀t e,T t->P.underlying t=some (.slice e)->0<P.cellsOf e){f:Func}{s:ChangeSpec}{apart fresh a l:Bool}{W v:World}{args:Array Value}{ds X:List (DataW H)}{d:List MemPlace}
 (U : ∀t∈f.params.toList,T t) (G:s.vars=[]) (O:DataW.Whole enc P f.params.toList s.vars apart W args.toList ds X d) (S:s.fn H ds = { results:=[.lit (.bool true)],args:=ds})
 {Q:TypeId} (N:f.resultTypes = #[Q]) (J:P.underlying Q=some .bool) (C:Kept W v):s.post enc P f apart fresh a l W args (.bool true) v:=by
 have A:=O
 obtain⟨p,q,R,I,rfl,y,u⟩:=A
 rw[G]at I
 obtain⟨rfl,rfl⟩:=trodVars_none I
 have z:=R.lt
 have m:s.fn H (ds++[]) = { results:=[.lit (.bool true)],args:=ds}:=by rw[tq];exact S
 have h : ∀(b:Nat)(g:Nat->Bool)(L:Bool),DataW.TrodAll enc P v b g L f.resultTypes.toList ((Value.bool true).resultList f.resultTypes.size) (s.fn H (ds++[])).results []:=by
  intro b g L
  rw[N,m]
  exact trodAll_mk1 (shut_bool J true)
 have c : ∀g:Nat->Bool,(∀x∈p,g x.block=true)->DataW.TrodAll enc P v 0 g true f.params.toList args.toList (s.fn H (ds++[])).args p:=by
  intro g F
  rw[m]
  exact JO K Y C U R F
 have k : ∀g:Nat->Bool,DataW.TrodVars enc P v g s.vars (s.fn H (ds++[])).vars []:=by
  intro g
  rw[G,m]
  rfl
 rw[tq]at u y
 refine⟨ds,[],p++[],[],p,[],O,h _ _ _,c _ (λx D=>by simpa using z x D),k _,C.keptBut _,λ_=>?_⟩
 have j:=trodAll_append (c (λ_=>true) (λ_ _=>rfl)) (h 0 (λ_=>true) true)
 rw[tq]at j
 refine⟨ok_one N rfl (okWide_bool_mk J true),_,[],p++[],⟨p,[],j,(by rw[G];rfl),rfl,?_,?_⟩,λx D _=>D⟩
 ·intro b n hp
  rw[tq]at hp
  rw[C.frozen (show(⟨b,n,none⟩:Addr).block<W.heap.size from z _ hp)]
  exact y b n hp
 ·intro V
  rw[tq]
  exact u V
end
theorem Pg{E:Env}{ok:Array Oper->Bool}(g:E.Ok ok){n:Nat}{f:FuncId}{xs:List AV}(h:bG E (bR E n) f xs=some (.v (.bool true))){W:World}{us:List Value}
 (j:mc (λb o=>W.cell? ⟨b,o,none⟩) ek xs us):Calls E.P f us.toArray W λe d=>e = .returned (.bool true)/\Kept W d:=by
 refine((Qo g h).2 _ W us (λ_ _ _ h=>h) j).mono λe d ⟨v,M',he,hend⟩=>?_
 obtain⟨ls,k,c,_⟩:=hend.res ⟨0,0,0,0⟩
 have a:aE ⟨0,0,0,0⟩ depth (.v (.bool true)) []=(.v (.bool true),[]):=wj _ depth 1 _ _ rfl
 rw[a]at c
 cases c
 exact⟨he,hend.os,hend.output,hend.size,hend.old⟩
def MD(E:Env)(l:List FuncId):Bool:=l.all λf=>match E.P.funcs[f]? with
 | some fn => !(fn.name == "runtime.NumGoroutine")&&(match fn.body with | some c=>codeOk (D7 E) c | none=>true)
 | none=>false
def aeT(ops:Array Oper)(i:Nat):Nat:=match ops[i]? with
 | some o=>(match o.dst with | some d=>d | none=>0)
 | none=>0
def Al:List (Nat × Nat × Nat × List (Tmp × Tmp))->Array Oper->List (Tmp × Tmp)
 | [],_=>[]
 | (a,b,c,l) :: d,ops=>cond (Nat.beq b ops.size) (cond (Nat.beq a (aeT ops 0)) (cond (Nat.beq c (aeT ops (b - 1))) l (Al d ops)) (Al d ops)) (Al d ops)
def QH(e:List (Nat × Nat × Nat))(o:Oper):Bool:=match o.op with
 | .call c=>(match c.callee with
  | .builtin .append=>(match o.dst,c.args.toList with
   | some d,[.tmp a,.tmp b]=>e.any λ(x,y,z)=>Nat.beq x d&&Nat.beq y a&&Nat.beq z b
   | _,_=>false)
  | .value (.tmp t)=>(match o.dst with
   | some d=>e.any λ(x,y,z)=>Nat.beq x d&&Nat.beq y t&&Nat.beq z 66666
   | none=>false)
  | .builtin .len=>(match o.dst with
   | some d=>e.any λ(x,y,z)=>Nat.beq x d&&Nat.beq y 0&&Nat.beq z 55555
   | none=>false)
  | _=>false)
 | .buildSlice _ n _=>(match o.dst with
  | some d=>e.any λ(x,y,z)=>Nat.beq x d&&Nat.beq y n&&Nat.beq z 77777
  | none=>false)
 | _=>false
def Uu:Option Operand->Bool
 | some (.const (.slice none 0 0))=>true
 | _=>false
def ZW(o:Oper):Bool:=match o.op with
 | .call c=>(match c.callee with
  | .builtin .append=>Uu c.args[0]?
  | _=>false)
 | _=>false
def SY(a:List (Nat × Nat × Nat))(o:Oper):Bool:=match o.op with
 | .buildSlice _ n _=>(match o.dst with
  | some d=>a.any λ(x,y,z)=>Nat.beq x d&&Nat.beq y n&&Nat.beq z 88888
  | none=>false)
 | .call c=>(match o.dst with
  | some d=>a.any λ(x,y,z)=>Nat.beq x d&&((Nat.beq y 0&&Nat.beq z 88888)||(Nat.beq z 88889&&(match c.callee with
   | .value (.func g)=>Nat.beq g y
   | _=>false)))
  | none=>false)
 | _=>false
def Ld(a:List (Nat × Nat × Nat))(o:Oper):Bool:=ZW o||QH a o
def XA(P:Program)(l cr ld:List FuncId)(strict:Oper->Bool)(apart:Array Oper->List (Tmp × Tmp))(kH:Oper->Bool:=λ_=>false):Env := { kH:=kH,P:=P,strict:=strict,apart:=apart,mode:=λf=>if cr.contains f then (if ld.contains f then 3 else 1) else if ld.contains f then 2 else 0,allowed:=λf=>l.contains f,spec:=λ_ _=>none}
def BB(P:Program)(l cr ld:List FuncId)(strict:Oper->Bool:=λ_=>false)(apart:Array Oper->List (Tmp × Tmp):=λ_=>[])(kH:Oper->Bool:=λ_=>false)(CR:List (FuncId × List AV × AV):=[])(wide:Oper->Bool:=λ_=>false)(ur:FuncId->Option TypeId:=λ_=>none)(thrSpec:FuncId->List AV->ai->Option (AV × ai):=λ_ _ _=>none)(sm:Nl:=Us):Env:=
 {kH:=kH,P:=P,strict:=strict,apart:=apart,mode:=λf=>if cr.contains f then (if ld.contains f then 3 else 1) else if ld.contains f then 2 else 0,allowed:=λf=>l.contains f,spec:=Kb CR,ok:=D7 (XA P l cr ld strict apart kH),wide:=wide,ur:=ur,thrSpec:=thrSpec,sm:=sm}
noncomputable def Mz:Nl:=⟨λH H' => @decide (∀q k,H.get q=some k->H'.get q=some k) (Classical.propDecidable _),λH H' h => @of_decide_eq_true _ (Classical.propDecidable _) h⟩
theorem My{H H':ai}(h : ∀q k,H.get q=some k->H'.get q=some k):Mz.f H H'=true := @decide_eq_true _ (Classical.propDecidable _) h
theorem Vt : ∀(n:Nat)(x y:AV),Jh n x y=true->x=y:=by
 intro n
 induction n with
 | zero=>intro x y h;simp[Jh]at h
 | succ n a=>
  intro x y h
  unfold Jh at h
  split at h
  ·rw[KX h]
  ·simp only[bh]at h
   rw[rN a _ _ (kP h.1) h.2]
  ·simp only[bh,decide_eq_true_eq]at h
   rw[rN a _ _ (kP h.1.2) h.2,kP h.1.1.1,h.1.1.2]
  ·cases h
theorem UC{xs ys:List AV}(h:UD xs ys=true):xs=ys:=by
 unfold UD at h
 simp only[bh]at h
 exact rN (Vt 8) _ _ (kP h.1) h.2
theorem W4{P:Program}{T:List (FuncId × List AV × AV)}(b : ∀p∈T,cW P p.1 p.2.1 p.2.2){f:FuncId}{args:List AV}{y:AV}(h:Kb T f args=some y):cW P f args y:=by
 induction T with
 | nil=>cases h
 | cons p T c=>
  obtain⟨g,xs,z⟩:=p
  unfold Kb at h
  split at h
  ·rename_i a
   simp only[bh]at a
   cases h
   have:=b _ (jn ..)
   simp only at this
   rw[<-kP a.1,<-UC a.2]
   exact this
  ·exact c (λp hp=>b p (il _ hp)) h
theorem Qk{P:Program}{l cr ld:List FuncId}{strict:Oper->Bool}{apart:Array Oper->List (Tmp × Tmp)}{kH:Oper->Bool}{CR:List (FuncId × List AV × AV)}{wide:Oper->Bool}{ur:FuncId->Option TypeId}{thrSpec:FuncId->List AV->ai->Option (AV × ai)}{sm:Nl}(hspec : ∀p∈CR,cW P p.1 p.2.1 p.2.2)(hm:P.follows .mixedOrders=true)(h0:MD (BB P l cr ld strict apart kH) l=true)(hover : ∀f t,ur f=some t->B6 P f t)(hthr : ∀f args H y H',thrSpec f args H=some (y,H')->sh P (.fn f) args H y H') :
 (BB P l cr ld strict apart kH CR wide ur thrSpec sm).Ok (D7 (BB P l cr ld strict apart kH CR wide ur thrSpec sm)) where
 fns:=by
  intro f hf
  have h:MD (BB P l cr ld strict apart kH CR) l=true:=h0
  have hf':f∈l:=by simpa [BB] using hf
  have:=gD.1 h f hf'
  split at this
  ·rename_i fn hfn
   simp only[bh,dV]at this
   refine⟨fn,hfn,this.1,λc hc=>?_⟩
   have h2:=this.2
   rw[hc]at h2
   exact h2
  ·cases this
 specs:=λf args y h=>W4 hspec h
 same:=rfl
 overs:=hover
 thrs:=hthr
 draws:=λops hok _ hpc _ htc nt dep id st st' M ι a w ro Q hr hap hO hQ=>by
  rcases Jy.1 hok with h1 | h1
  ·exact Vd hm h1 hpc htc hr hO hQ
  ·exact Ve hm h1 hpc htc hr hap hO hQ
theorem Xz{P:Program}{l cr ld:List FuncId}{strict:Oper->Bool}{apart:Array Oper->List (Tmp × Tmp)}{kH:Oper->Bool}{CR:List (FuncId × List AV × AV)}(a : ∀p∈CR,cW P p.1 p.2.1 p.2.2)(b:P.follows .mixedOrders=true)(c:MD (BB P l cr ld strict apart kH) l=true):(BB P l cr ld strict apart kH CR).Ok (D7 (BB P l cr ld strict apart kH CR)):=
 Qk a b c (λf t h=>by cases h) (λf args H y H' h=>by cases h)
theorem jS{E:Env}{ok:Array Oper->Bool}(a:E.Ok ok){n:Nat}{f:FuncId}{args:List AV}{y:AV}(h:bG E (bR E n) f args=some y):cW E.P f args y:=
 Qo a h
theorem Ma{P:Program} : ∀p∈([]:List (FuncId × List AV × AV)),cW P p.1 p.2.1 p.2.2:=λp hp=>by simp at hp
theorem ia{P:Program}{f:FuncId}{args:List AV}{y:AV}{T:List (FuncId × List AV × AV)}(h:cW P f args y)(a : ∀p∈T,cW P p.1 p.2.1 p.2.2) : ∀p∈(f,args,y) :: T,cW P p.1 p.2.1 p.2.2:=by
 intro p hp
 rcases m6.1 hp with rfl | hp
 ·exact h
 ·exact a p hp
def Kv(P:Program)(f:Func):Bool:=match f.resultTypes.toList with
 | [t]=>(match P.underlying t with | some .bool=>true | _=>false)
 | _=>false
theorem Pk{P:Program}{f:Func}(h:Kv P f=true) : ∃a,f.resultTypes = #[a]/\P.underlying a=some .bool:=by
 unfold Kv at h
 split at h
 ·rename_i t c
  split at h
  ·rename_i b
   exact⟨t,by rw[<-Js,c],b⟩
  ·cases h
 ·cases h
end Go.Ab
