/-
  Regions where stores, and what looks at memory at one place, come in any order. No statement of a seat is proved here.
  Regions where stores, and what looks at memory at one place, come in any order: the theorem. No statement of a seat is proved here.
  Regions where stores, and what looks at memory at one place, come in any order: the step and the end. No statement of a seat is proved here.
  From a run of the abstract machine on every data of the parameters' types to a law's contract. No statement of a seat is proved here.
-/
import Derived.ReadAgain
import Derived.OpenShut
import Derived.ChangeSame
import Derived.RowKit
import Derived.JoinedOf
import Derived.Test.YtdbiffjdomokfaaGreatAbsDrawn
set_option linter.unusedVariables false
set_option linter.unusedSimpArgs false
set_option linter.unusedSectionVars false
set_option linter.unnecessarySimpa false
namespace Go.Ab
structure aaX (E:Env) (ops:Array Oper):Prop extends RegB ops where
 made : ∀(i:Nat)(o:Oper),ops[i]?=some o->cls E o=3->o.dst.isSome=true
 stay : ∀(i:Nat)(o:Oper),ops[i]?=some o->cls E o≠0->cls E o≠3->pR E o=false ->∃t,mB E o=some t /\∀k,iQ ops k=some t->k<i
 must : ∀(i j:Nat)(oi oj:Oper),ops[i]?=some oi->ops[j]?=some oj->j<i->qb E oi oj=true->((du ops.toList []).getD i 0).testBit j=true
 meet : ∀(i j:Nat)(oi oj:Oper),ops[i]?=some oi->ops[j]?=some oj->j<i->CQ (cls E oi) (cls E oj)=true->pR E oi=false->pR E oj=false->((du ops.toList []).getD i 0).testBit j=true\/settled E ops oi oj=true
theorem D9(E:Env)(o:Oper):cls E o<=4:=by unfold cls;(repeat' split)<;>omega
theorem WZ{E:Env}{ops:Array Oper}(h:UA E ops=true):aaX E ops:=by
 unfold UA at h
 rw[aZ]at h
 replace h:=h.2
 simp only[fZ,xl]at h
 have one : ∀(i:Nat)(o:Oper),ops[i]?=some o->(eI o).all (· < i)=true/\PY E ops i o=true /\∀(j:Nat)(a:Oper),j<i->ops[j]?=some a->OM E ops (du ops.toList []) o a i j=true:=by
  intro i o f
  have d:i<ops.size:=(ij.1 f).1
  have:=h i d
  rw[f]at this
  simp only[aZ,fZ,xl]at this
  refine⟨by simpa using this.1.1,this.1.2,λj a e n=>?_⟩
  have u:=this.2 j e
  rw[n]at u
  exact u
 have c : ∀(i j:Nat)(oi a:Oper),ops[i]?=some oi->ops[j]?=some a->j<i->yi ops (du ops.toList []) oi a i j=true /\
  (!qb E oi a||((du ops.toList []).getD i 0).testBit j)=true/\(!CQ (cls E oi) (cls E a)||pR E oi||pR E a||((du ops.toList []).getD i 0).testBit j||settled E ops oi a)=true:=by
  intro i j oi a d e b
  have:=(one i oi d).2.2 j a b e
  unfold OM at this
  rw[aZ,aZ]at this
  exact⟨this.1.1,this.1.2,this.2⟩
 refine⟨Qp (λi o f=>(one i o f).1) λi j oi a d e b=>(c i j oi a d e b).1,?_,?_,?_,?_⟩
 ·intro i o f A
  have:=(one i o f).2.1
  unfold PY at this
  rw[A]at this
  exact this
 ·intro i o f z B m
  have:=(one i o f).2.1
  unfold PY at this
  have g:N4 ops i (mB E o)=true:=by
   split at this
   ·exact absurd (by assumption) z
   ·exact absurd (by assumption) B
   ·rw[m,Ds]at this;exact this
  unfold N4 at g
  split at g
  ·rename_i t y
   refine⟨t,y,λk l=>?_⟩
   simp only[fZ,xl]at g
   have p:k<ops.size:=by
    unfold iQ at l
    cases v:ops[k]? with
    | none=>rw[v]at l;cases l
    | some x=>exact(ij.1 v).1
   have:=g k p
   rw[l]at this
   simpa using this
  ·cases g
 ·intro i j oi a d e b q
  have:=(c i j oi a d e b).2.1
  rw[q]at this
  simpa using this
 ·intro i j oi a d e b q r1 r2
  have:=(c i j oi a d e b).2.2
  rw[q,r1,r2]at this
  simpa using this
def Made(H H':ai)(q:Ref):Prop:=H.gen q.d q.t<=q.g/\q.g<H'.gen q.d q.t
structure yt (H H':ai):Prop where
 gen : ∀d t,H.gen d t<=H'.gen d t
 born : ∀q,H'.get q≠none->H.get q≠none\/Made H H' q
 arr : ∀q b b',H.get q=some b->q.g<H.gen q.d q.t->H'.get q=some b'->b'.arr=b.arr
theorem yt.refl(H:ai):yt H H:=⟨λ_ _=>bD _,λ_ h => .inl h,λq b b' h _ a=>by rw[h]at a;cases a;rfl⟩
theorem yt.keyed(H:ai)(d t:Nat)(m:List bA):yt H (keyed ⟨d,t,H.gen d t,0⟩ 0 m H):=by
 refine⟨λn t'=>?_,λq h=>?_,λq b b' h l c=>?_⟩
 ·rw[ai.kX];split
  ·rename_i a;obtain⟨rfl,rfl,_⟩:=a;exact Dp _
  ·exact bD _
 ·rw[ai.lD]at h
  unfold sM at h
  split at h
  ·rename_i a
   obtain⟨g,j,f,k⟩:=a
   refine .inr ⟨?_,?_⟩
   ·rw[g,j,f];exact bD _
   ·rw[ai.kX,if_pos ⟨g,j,by intro e;rw[e]at k;simp at k⟩,f];exact qJ _
  ·exact .inl h
 ·rw[ai.lD]at c
  unfold sM at c
  split at c
  ·rename_i a
   obtain⟨g,j,f,k⟩:=a
   rw[g,j,f]at l
   exact absurd l (Bd _)
  ·rw[h]at c;cases c;rfl
theorem Ks{g:db}{R:List Ref}{q:Ref}{b b':bA}(h:g q=some b)(a:vF g R q=some b'):b'.arr=b.arr:=by
 unfold vF at a
 split at a
 ·rw[h]at a;simp at a;rw[<-a]
 ·rw[h]at a;cases a;rfl
theorem G2{g:db}{R:List Ref}{q:Ref}:vF g R q≠none->g q≠none:=by
 unfold vF
 split
 ·intro h e;rw[e]at h;exact h rfl
 ·exact id
theorem yt.put{H:ai}{R:List Ref}{r:Ref}{b:bA}{es:List AV}(c:(cH H R).get r=some b):yt H ((cH H R).put r (some { b with es})):=by
 refine⟨λd t=>?_,λq h=>?_,λq b1 b' h f a=>?_⟩
 ·rw[ai.mO _ _ _ (by rw[c];rfl),ai.ko];exact bD _
 ·rw[ai.get_put]at h
  split at h
  ·rename_i e;subst e;exact .inl (G2 (R:=R) (by rw[<-ai.eB,c];simp))
  ·exact .inl (G2 (R:=R) (by rw[<-ai.eB];exact h))
 ·rw[ai.get_put]at a
  split at a
  ·rename_i e;subst e
   cases a
   rw[ai.eB]at c
   exact(Ks h c:b.arr=b1.arr)
  ·rw[ai.eB]at a
   exact Ks h a
theorem KW{P:Program}{H H':ai}{t:TypeId}{a x:Option AV}{y:AV}(h:nc P H t a x=some (y,H')):yt H H':=by
 unfold nc at h
 split at h
 ·split at h
  ·rename_i r' i j u n _ b f
   obtain⟨⟨k,l,p⟩,h⟩:=fa.1 h
   split at h
   ·split at h
    ·rename_i q m
     split at h
     ·cases h
     ·rename_i e
      obtain⟨g,h⟩:=fa.1 h
      simp only[bO]at h
      obtain⟨c,d,h⟩:=h
      cases h
      exact yt.put (by rw[ai.eB];unfold vF;rw[if_neg e];exact f)
    ·cases h
   ·simp only[bO]at h
    obtain⟨c,d,h⟩:=h
    cases h
    exact yt.put (R:=[]) f
  ·cases h
 ·cases h
theorem Bl{P:Program}{H H':ai}{t t':Option TypeId}{s x y:AV}(h:mI P H t t' s x=some (y,H')) :
 ∃r b z es f,ju s=some r/\H.get r=some b/\b.arr=true/\H'=(⟨r.d,r.t,H.gen r.d r.t,0⟩,some ⟨z,es,true,f⟩) :: H.put r none:=by
 unfold mI at h
 split at h
 ·cases h
 ·split at h
  ·cases h
  ·split at h
   ·split at h
    ·cases h
    ·split at h
     ·split at h
      ·rename_i r' c len b e
       obtain⟨⟨_,a,_⟩,h⟩:=fa.1 h
       cases h
       exact⟨_,b,_,_,_,rfl,e,a,rfl⟩
      ·cases h
     ·cases h
   ·cases h
theorem KI{H:ai}{r:Ref}{o:Option bA}(q:Ref):ai.get ((⟨r.d,r.t,H.gen r.d r.t,0⟩,o) :: H.put r none) q=if (⟨r.d,r.t,H.gen r.d r.t,0⟩:Ref)=q then o else if q=r then none else H.get q:=by
 simp only[ai.get,ai.get_put]
theorem KJ{H:ai}{r:Ref}{o:Option bA}(a:(H.get r).isSome=true)(d t:Nat):ai.gen ((⟨r.d,r.t,H.gen r.d r.t,0⟩,o) :: H.put r none) d t=if r.d=d/\r.t=t then H.gen d t+1 else H.gen d t:=by
 simp only[ai.gen]
 rw[ai.mO _ _ _ a]
 split
 ·rename_i h;rw[h.1,h.2]
 ·rfl
theorem JI{P:Program}{H H':ai}{t t':Option TypeId}{s x y:AV}(h:mI P H t t' s x=some (y,H')):yt H H' /\∃r,ju s=some r /\∀q,H'.get q≠H.get q->Made H H' q\/q=r:=by
 obtain⟨r,b,z,es,f,l,m,k,rfl⟩:=Bl h
 have j:(H.get r).isSome=true:=by rw[m];rfl
 have a : ∀q,(⟨r.d,r.t,H.gen r.d r.t,0⟩:Ref)=q->Made H ((⟨r.d,r.t,H.gen r.d r.t,0⟩,some ⟨z,es,true,f⟩) :: H.put r none) q:=by
  intro q e
  subst e
  refine⟨bD _,?_⟩
  rw[KJ j,if_pos ⟨rfl,rfl⟩]
  exact qJ _
 refine⟨⟨λd t=>?_,λq c=>?_,λq b1 b' p n g=>?_⟩,r,l,λq c=>?_⟩
 ·rw[KJ j];split<;>omega
 ·rw[KI]at c
  split at c
  ·rename_i e;exact .inr (a q e)
  ·split at c
   ·exact absurd rfl c
   ·exact .inl c
 ·rw[KI]at g
  split at g
  ·rename_i e
   subst e
   exact absurd n (Bd _)
  ·split at g
   ·cases g
   ·rw[p]at g;cases g;rfl
 ·rw[KI]at c
  split at c
  ·rename_i e;exact .inl (a q e)
  ·split at c
   ·rename_i e;exact .inr e
   ·exact absurd rfl c
def Seen(g a:db)(v:AV):Prop :=∀q,ju v=some q->g q≠none->a q=g q
theorem AS{g a:db}{v:AV}(h:Seen g a v){q:Ref}(d:ju v=some q){b:bA}(c:g q=some b):a q=some b:=by rw[h q d (by rw[c];simp),c]
theorem GB{P:Program}{g f:db}{t:TypeId}{v x:AV}{c:List bA}(h:sf P g t (some v)=some (x,c))(k:Seen g f v):c=[]/\sf P f t (some v)=some (x,c):=by
 unfold sf at h ⊢
 cases v<;>(try (simp at h;done))
 ·rename_i r i j
  cases d:dB P t<;>cases e:aJ P t<;>rw[d,e]at h<;>(try (simp at h;done))
  simp only at h ⊢
  cases a:g r with
  | none=>rw[a]at h;simp at h
  | some b=>
   rw[a]at h
   rw[AS k rfl a]
   exact⟨(qT h).2,h⟩
 ·cases d:dB P t<;>cases e:aJ P t<;>rw[d,e]at h<;>(try (simp at h;done))
  exact⟨(qT h).2,h⟩
theorem zC{P:Program}{g l:db}{t:TypeId}{v x:AV}{d:Option AV}{f:List bA}(h:cT P g t (some v) d=some (x,f))(n:Seen g l v):f=[]/\cT P l t (some v) d=some (x,f):=by
 unfold cT at h ⊢
 cases m:d.bind intOf with
 | none=>rw[m]at h;simp at h
 | some k=>
 rw[m]at h
 simp only at h ⊢
 cases he:dN P t with
 | some e=>
  rw[he]at h
  simp only at h ⊢
  cases a:aJ P e with
  | none=>rw[a]at h;cases v<;>simp at h
  | some z=>
  rw[a]at h
  cases v<;>(try (simp at h;done))
  ·simp only at h ⊢
   exact⟨by obtain⟨_,h⟩:=fa.1 h;cases h;rfl,h⟩
  ·rename_i r q len cap
   simp only at h ⊢
   cases c:g r with
   | none=>rw[c]at h;simp at h
   | some b=>
    rw[c]at h
    rw[AS n rfl c]
    exact⟨by obtain⟨_,h⟩:=fa.1 h;cases h;rfl,h⟩
 | none=>
  rw[he]at h
  simp only at h ⊢
  refine⟨?_,h⟩
  cases j:jI P t with
  | none=>rw[j]at h;simp at h
  | some p=>
  rw[j]at h
  cases a:aJ P p.2 with
  | none=>simp only[a]at h;cases v<;>simp at h
  | some z=>
  simp only[a]at h
  cases v<;>(try (simp at h;done))
  ·obtain⟨_,h⟩:=fa.1 h;cases h;rfl
  ·obtain⟨_,h⟩:=fa.1 h;cases h;rfl
theorem Eu{P:Program}{g m:db}{t:TypeId}{v x:AV}{l k d:Option (Option Int)}{a:List bA}(h:iJ P g t (some v) l k d=some (x,a))(n:Seen g m v):a=[]/\iJ P m t (some v) l k d=some (x,a):=by
 have nil : ∀ {c:Prop} [Decidable c] {o:Option (Nat × Nat × Option Nat)} {f:Nat × Nat × Option Nat->AV × List bA},(∀p,(f p).2=[])->(if c then o.map f else none)=some (x,a)->a=[]:=by
  intro c _ o f u h
  obtain⟨_,h⟩:=fa.1 h
  obtain⟨p,_,h⟩:=bO.1 h
  have:=u p
  rw[h]at this
  exact this
 unfold iJ at h ⊢
 cases l<;>cases k<;>cases d<;>(try (simp at h;done))
 simp only at h ⊢
 cases v<;>(try (simp at h;done))
 ·rename_i y
  cases y<;>(try (simp at h;done))
  ·simp only at h ⊢
   exact⟨nil (λ_=>rfl) h,h⟩
  ·split at h
   ·rename_i e
    simp only[dR,AV.v.injEq,Value.slice.injEq]at e
    obtain⟨rfl,rfl,rfl⟩:=e
    exact⟨nil (λ_=>rfl) h,h⟩
   ·rename_i e;simp at e
   ·rename_i e;simp at e
   ·rename_i e;simp at e
   ·cases h
 ·simp only at h ⊢
  exact⟨nil (λ_=>rfl) h,h⟩
 ·rename_i r q len cap
  simp only at h ⊢
  cases j:g r with
  | none=>rw[j]at h;simp at h
  | some b=>
   rw[j]at h
   rw[AS n rfl j]
   exact⟨nil (λ_=>rfl) h,h⟩
theorem Ky{g c:db}{v:AV}{p:Nat × List AV}(h:cU g v=some p)(e:Seen g c v):cU c v=some p:=by
 unfold cU at h ⊢
 cases v<;>(try (simp at h;done))
 ·rename_i y
  cases y<;>first | exact h | (simp at h;done)
 ·exact h
 ·rename_i r d len cap
  simp only at h ⊢
  cases a:g r with
  | none=>rw[a]at h;simp at h
  | some b=>
   rw[a]at h
   rw[AS e rfl a]
   exact h
theorem Bq{P:Program}{g m:db}{r r':Ref}{d f:TypeId}{v x:AV}{k:List bA}(n:fE P f=false)(h:gf P g r d f (some v)=some (x,k))(t:Seen g m v) :
 k=[]/\gf P m r' d f (some v)=some (x,k):=by
 have other : ∀ {y:AV},y=v->(if fE P d&&isStr P f then
  match cU g y with
  | some (_,es)=>(es.mapM byteOf).map λl=>((AV.v (.string ⟨l.toArray⟩),[]):AV × List bA)
  | none=>none
  else if d == f&&fE P d then
   match y with
   | .cC r' _ _ _=>(match g r' with
    | some b=>if b.esz=1 then some (y,[]) else none
    | none=>none)
   | _=>none
  else none)=some (x,k)->k=[]/\(if fE P d&&isStr P f then
   match cU m y with
   | some (_,es)=>(es.mapM byteOf).map λl=>((AV.v (.string ⟨l.toArray⟩),[]):AV × List bA)
   | none=>none
  else if d == f&&fE P d then
   match y with
   | .cC r' _ _ _=>(match m r' with
    | some b=>if b.esz=1 then some (y,[]) else none
    | none=>none)
   | _=>none
  else none)=some (x,k):=by
  intro y e h
  split at h
  ·rename_i q
   rw[if_pos q]
   cases he:cU g y with
   | none=>rw[he]at h;simp at h
   | some p=>
    rw[he]at h
    rw[Ky he (e ▸ t)]
    refine⟨?_,h⟩
    obtain⟨_,_,h⟩:=bO.1 h
    cases h;rfl
  ·rename_i q
   split at h
   ·rename_i j
    simp only[aZ,beq_iff_eq]at j
    rw[j.1,n]at j
    simp at j
   ·cases h
 unfold gf at h ⊢
 cases v
 case v y=>
  cases y
  case string s=>
   simp only[n,FB,jH,if_false]at h ⊢
   exact⟨by obtain⟨_,h⟩:=fa.1 h;cases h;rfl,h⟩
  case slice a l c=>
   rcases a with _ | a
   ·rcases l with _ | l
    ·rcases c with _ | c
     ·exact⟨by obtain⟨_,h⟩:=fa.1 h;cases h;rfl,h⟩
     ·exact⟨(qT h).2,h⟩
    ·exact⟨(qT h).2,h⟩
   ·exact⟨(qT h).2,h⟩
  all_goals exact⟨(qT h).2,h⟩
 all_goals exact other rfl h
theorem Dy{P:Program}{H H':ai}{d a:Nat}{t:TypeId}{n:Nat}{l:List (Nat × AV)}{x:AV}(h:kg P H ⟨d,a,H.gen d a,0⟩ t n (some l)=some (x,H')):yt H H' /\∀q,H'.get q≠H.get q->Made H H' q\/q∈bY H.get (l.map (·.2)):=by
 simp only[kg,bO]at h
 obtain⟨b,z,h⟩:=h
 injection h with A p
 subst p
 generalize B:bY H.get (l.map (·.2))=R
 have c : ∀q,ai.get ((⟨d,a,H.gen d a,0⟩,some b) :: cH H R) q=if (⟨d,a,H.gen d a,0⟩:Ref)=q then some b else vF H.get R q:=by
  intro q;simp only[ai.get,ai.eB]
 have j : ∀k t',ai.gen ((⟨d,a,H.gen d a,0⟩,some b) :: cH H R) k t'=if d=k/\a=t' then H.gen d a+1 else H.gen k t':=by
  intro k t';simp only[ai.gen,ai.ko]
 have f : ∀q,(⟨d,a,H.gen d a,0⟩:Ref)=q->Made H ((⟨d,a,H.gen d a,0⟩,some b) :: cH H R) q:=by
  intro q e
  subst e
  refine⟨bD _,?_⟩
  rw[j,if_pos ⟨rfl,rfl⟩]
  exact qJ _
 refine⟨⟨λk t'=>?_,λq g=>?_,λq b1 b' v u m=>?_⟩,λq g=>?_⟩
 ·rw[j];split
  ·rename_i e;rw[<-e.1,<-e.2];exact Dp _
  ·exact bD _
 ·rw[c]at g
  split at g
  ·rename_i e;exact .inr (f q e)
  ·exact .inl (G2 g)
 ·rw[c]at m
  split at m
  ·rename_i e;subst e;exact absurd u (Bd _)
  ·exact Ks v m
 ·rw[c]at g
  split at g
  ·rename_i e;exact .inl (f q e)
  ·unfold vF at g
   split at g
   ·rename_i y;exact .inr y
   ·exact absurd rfl g
theorem CF{P:Program}{g c:db}{t:TypeId}{v x:AV}{k:Option AV}{ok:Bool}{f:List bA}(h:eT P g t (some v) k ok=some (x,f))(l:Seen g c v):f=[]/\eT P c t (some v) k ok=some (x,f):=by
 unfold eT at h ⊢
 cases v<;>(try (simp at h;done))
 rename_i r
 cases d:HL P t with
 | none=>rw[d]at h;simp at h
 | some p=>
 obtain⟨m,et⟩:=p
 cases j:k.bind gI with
 | none=>rw[d,j]at h;simp at h
 | some n=>
 rw[d,j]at h
 simp only at h ⊢
 cases hm:jO g r with
 | none=>rw[hm]at h;simp at h
 | some ents=>
 have e:jO c r=some ents:=by
  unfold jO at hm ⊢
  cases a:g r with
  | none=>rw[a]at hm;simp at hm
  | some b=>rw[a]at hm;rw[AS l rfl a];exact hm
 rw[e]
 rw[hm]at h
 refine⟨?_,h⟩
 simp only at h
 split at h
 ·split at h
  ·obtain⟨_,_,h⟩:=bO.1 h;cases h;rfl
  ·obtain⟨_,_,h⟩:=bO.1 h;cases h;rfl
  ·cases h
 ·cases h
theorem Vf{E:Env}{pc:FuncId->List AV->Option AV}{g k:db}{tm:List AV}{r:Ref}{o:Oper}(b:blind E o=true){x:AV}{d:List bA}(h:ct E pc true g tm r o=some (x,d)) :
 ct E pc true k tm r o=some (x,d):=by
 unfold blind at b
 replace b:=(xn.1 b).2
 split at b
 ·rename_i a
  unfold ct at h ⊢
  simp only[a]at h ⊢
  exact h
 ·rename_i a
  unfold ct at h ⊢
  simp only[a]at h ⊢
  exact h
 ·rename_i c a
  obtain⟨m,e⟩:=xn.1 b
  split at e
  ·rename_i f j
   have l:c.args.toList=[]:=by simpa using m
   unfold ct at h ⊢
   simp only[a,l,j,yW,FA,sW,aM,kn,tL,bY,FG]at h ⊢
   exact h
  ·cases e
 ·cases b
theorem OW{E:Env}{o:Oper}(h:OX E o=true):blind E o=true:=by
 unfold OX at h
 unfold blind
 obtain⟨c,b⟩:=xn.1 h
 rw[c,nu]
 split at b
 ·rename_i a;rw[a]
 ·rename_i a;rw[a]
 ·cases b
theorem RN{E:Env}{oi a:Oper}(h:blind E oi=false):oH E oi a=false:=by
 unfold oH
 cases b:OX E oi with
 | false=>rfl
 | true=>rw[OW b]at h;cases h
theorem oG{E:Env}{oi a:Oper}(h:cls E oi≠3):oH E oi a=false:=by
 unfold oH OX
 rw[beq_false_of_ne h]
 rfl
theorem RO{E:Env}{oi a:Oper}(h:((Hl a.op).isSome&&a.dst.isSome)=false):oH E oi a=false:=by
 unfold oH
 rw[h,FB]
theorem OV{E:Env}{pc:FuncId->List AV->Option AV}{g:db}{tm:List AV}{r:Ref}{o:Oper}(b:OX E o=true){x:AV}{c:List bA}(h:ct E pc true g tm r o=some (x,c)):c≠[]:=by
 unfold OX at b
 replace b:=(xn.1 b).2
 split at b
 ·rename_i a
  unfold ct at h
  simp only[a]at h
  unfold uW at h
  split at h
  ·split at h
   ·cases h;simp
   ·cases h
  ·cases h
 ·rename_i a
  unfold ct at h
  simp only[a]at h
  cases h;simp
 ·cases b
theorem QE{E:Env}{pc:FuncId->List AV->Option AV}{tc:xd->List AV->ai->dv}{nt dep:Nat}{ops:Array Oper}{o:Oper}{st d:St}{t:Tmp}(a:Hl o.op=some t)(u:wanted ops st.tm o=some true)(h:evalOp E pc tc nt dep true ops o st=some d) :
 (∃x g tm',ct E pc true st.hp.get st.tm ⟨dep,o.dst.getD 0,st.hp.gen dep (o.dst.getD 0),0⟩ o=some (x,g)/\dn nt st.tm o.dst x=some tm'/\d=⟨tm',keyed ⟨dep,o.dst.getD 0,st.hp.gen dep (o.dst.getD 0),0⟩ 0 g st.hp⟩) \/
 ∃c y z x,o.op = .call c/\c.callee = .builtin .append/\c.args.toList.mapM (aM st.tm)=some [y,z]/\mI E.P st.hp c.argTypes[0]? c.argTypes[1]? y z=some (x,d.hp)/\y=cY st.tm t/\dn nt st.tm o.dst x=some d.tm:=by
 unfold evalOp at h
 rw[u]at h
 simp only at h
 split at h
 ·rename_i x g v
  simp only[bO]at h
  obtain⟨tm',j,rfl⟩:=h
  exact .inl ⟨x,g,tm',v,j,rfl⟩
 ·split at h
  ·cases h
  ·split at h
   ·rename_i x H f
    simp only[bO]at h
    obtain⟨tm',j,rfl⟩:=h
    refine .inr ?_
    unfold Hl at a
    split at a
    ·rename_i c q
     split at a
     ·rename_i p
      split at a
      ·rename_i t' rest b
       cases a
       unfold evalW at f
       simp only[q,p,b]at f
       cases hm:List.mapM (aM st.tm) (Operand.tmp t :: rest) with
       | none=>rw[hm]at f;simp at f
       | some args=>
        rw[hm]at f
        have k:=hm
        simp only[lX,aM,sW,tM,fy,gE]at hm
        obtain⟨l,A,e⟩:=hm
        simp at e
        subst e
        simp only at f
        split at f
        ·rename_i s y n m
         cases m
         exact⟨c,_,_,x,q,p,by rw[b];exact k,f,rfl,j⟩
        ·rename_i n m;cases n
        ·cases f
      ·cases a
     ·cases a
    ·cases a
   ·cases h
theorem look_nil{E:Env}{pc:FuncId->List AV->Option AV}{g:db}{tm:List AV}{r:Ref}{o:Oper}{t:Tmp}(d:Bv E.P o.op=some t){x:AV}{A:List bA}(h:ct E pc true g tm r o=some (x,A)) :
 A=[] /\∀f r',Seen g f (cY tm t)->ct E pc true f tm r' o=some (x,A):=by
 unfold Bv at d
 split at d
 ·rename_i ty t' a
  cases d
  unfold ct at h ⊢
  simp only[a]at h ⊢
  exact⟨(GB h (λ_ _ _=>rfl)).1,λf r' e=>(GB h e).2⟩
 ·rename_i ty t' L a
  cases d
  unfold ct at h ⊢
  simp only[a]at h ⊢
  exact⟨(zC h (λ_ _ _=>rfl)).1,λf r' e=>(zC h e).2⟩
 ·rename_i ty t' K J I a
  cases d
  unfold ct at h ⊢
  simp only[a,zZ,FB,cond_false]at h ⊢
  exact⟨(Eu h (λ_ _ _=>rfl)).1,λf r' e=>(Eu h e).2⟩
 ·rename_i G v t' a
  split at d
  ·cases d
  ·rename_i z
   cases d
   unfold ct at h ⊢
   simp only[a]at h ⊢
   have j:fE E.P v=false:=by simpa using z
   exact⟨(Bq (r':=r) j h (λ_ _ _=>rfl)).1,λf r' e=>(Bq j h e).2⟩
 ·rename_i ty t' k ok a
  cases d
  unfold ct at h ⊢
  simp only[a]at h ⊢
  exact⟨(CF h (λ_ _ _=>rfl)).1,λf r' e=>(CF h e).2⟩
 ·rename_i c a
  split at d
  ·rename_i F
   split at d
   ·rename_i t' l
    cases d
    unfold ct at h ⊢
    simp only[a,l,F,lX,FA,aM,sW,tM,fy]at h ⊢
    cases B:cY tm t with
    | mp q=>
     rw[B]at h
     simp only[ck]at h ⊢
     obtain⟨D,h⟩:=NO.1 h
     simp only[if_neg D]
     refine⟨?_,λf r' e=>?_⟩
     ·unfold vZ at h
      split at h
      ·cases h;rfl
      ·cases h
     ·unfold vZ at h ⊢
      split at h
      ·rename_i p ents C m
       have y:jO f q=some ents:=by
        unfold jO at m ⊢
        cases u:g q with
        | none=>rw[u]at m;simp at m
        | some b=>rw[u]at m;rw[AS e rfl u];exact m
       simp only[C,y]
       exact h
      ·cases h
    | _=>
     rw[B]at h
     simp only[ck]at h ⊢
     refine⟨?_,λf r' e=>h⟩
     unfold HN at h
     (repeat' split at h)<;>(try simp_all)<;>(try (obtain⟨_,_,_,h⟩:=h;exact h))<;>(try (obtain⟨n,_,h⟩:=gE.1 h;simp at h;exact h.2))
   ·cases d
  ·cases d
 ·cases d
end Go.Ab
namespace Go.Ab
section
variable{E:Env}{o:Oper}
theorem Hd(h:cls E o=0):xe E o=false:=by
 unfold cls at h
 cases a:xe E o with
 | false=>rfl
 | true=>rw[a]at h;simp only[if_true]at h;(repeat' split at h)<;>omega
theorem KA(h:cls E o=1) : ∃t,Bv E.P o.op=some t/\mB E o=some t/\jj E o=false:=by
 unfold cls at h
 split at h
 ·split at h
  ·cases h
  ·rename_i e
   split at h
   ·rename_i f
    obtain⟨t,a⟩:=gH.1 f
    refine⟨t,a,?_,?_⟩
    ·have:storeT o.op=none:=by simpa using e
     simp[mB,this,a]
    ·unfold jj
     have:Y7 E o.op=false/\Bb o.op=false:=by
      unfold Bv at a
      split at a<;>(try (rename_i b;rw[b];exact⟨rfl,rfl⟩))
      ·rename_i c b
       split at a
       ·rename_i d
        rw[b]
        simp[Y7,Bb,d]
       ·cases a
      cases a
     rw[this.1,this.2];simp
   ·split at h<;>cases h
 ·cases h
theorem Qk(h:cls E o=2) : ∃ty t x,o.op = .store ty (.tmp t) x/\mB E o=some t:=by
 unfold cls at h
 split at h
 ·split at h
  ·rename_i d
   obtain⟨t,a⟩:=gH.1 d
   have b:=a
   unfold storeT at a
   split at a
   ·rename_i ty t' x c
    cases a
    exact⟨ty,t,x,c,by simp[mB,b]⟩
   ·cases a
  ·(repeat' split at h)<;>cases h
 ·cases h
theorem A5(h:cls E o=3):xe E o=true/\jj E o=false:=by
 unfold cls at h
 split at h
 ·rename_i a
  split at h
  ·cases h
  ·split at h
   ·cases h
   ·split at h
    ·cases h
    ·rename_i b;exact⟨a,by simpa using b⟩
 ·cases h
theorem MY(h:cls E o=4):mB E o=if Bb o.op then Y1 o.op else Gb o.op:=by
 unfold cls at h
 split at h
 ·split at h
  ·cases h
  ·rename_i a
   split at h
   ·cases h
   ·rename_i c
    have b:storeT o.op=none:=by simpa using a
    have d:Bv E.P o.op=none:=by simpa using c
    simp[mB,b,d]
 ·cases h
end
theorem LH{E:Env}{o:Oper}(h:pR E o=true) : ∃c g,o.op = .call c/\c.callee = .value (.func g)/\E.mode g=2/\E.k8 o=true/\E.strict o=false:=by
 unfold pR at h
 rw[aZ,aZ]at h
 obtain⟨⟨e,f⟩,a⟩:=h
 split at a
 ·rename_i c b
  split at a
  ·rename_i g d
   exact⟨c,g,b,d,by simpa using a,e,by simpa using f⟩
  ·cases a
 ·cases a
theorem Rg{E:Env}{o:Oper}(h:pR E o=true):cls E o=4/\mB E o=none:=by
 obtain⟨c,g,a,b,hm,n,k⟩:=LH h
 have d:storeT o.op=none:=by rw[a];rfl
 have e:Bv E.P o.op=none:=by rw[a];simp[Bv,b]
 have p:jV o.op=true:=by rw[a];simp[jV,b]
 have f:jj E o=true:=by simp[jj,k,a,Y7,b,hm]
 have m:Gb o.op=none:=by rw[a];simp[Gb,RB,Hl,b]
 have l:Bb o.op=false:=by rw[a];rfl
 refine⟨?_,?_⟩
 ·have j:xe E o=true:=gC f
  simp[cls,d,e,j,f]
 ·simp[mB,d,e,m,l]
theorem sH{E:Env}{o:Oper}{t:Tmp}(h:mB E o=some t):pR E o=false:=by
 cases a:pR E o with
 | false=>rfl
 | true=>rw[(Rg a).2]at h;cases h
theorem Uw{E:Env}{pc:FuncId->List AV->Option AV}{tc:xd->List AV->ai->dv}{H H':ai}{tm:List AV}{r:Ref}{o:Oper}{t:Tmp}(e:RB o.op=some t){x:AV}(h:evalW E pc tc H tm r o=some (x,H')) :
 ∃q ents a,ju (cY tm t)=some q/\jO H.get q=some ents/\H'=H.put q (some (bn a)):=by
 have upd : ∀ {ty:TypeId} {m:AV} {k v:Option AV} {y:AV} {H':ai},dM E.P H ty (some m) k v=some (y,H') ->∃q ents a,ju m=some q/\jO H.get q=some ents/\H'=H.put q (some (bn a)):=by
  intro ty m k v y H' h
  unfold dM at h
  split at h
  ·rename_i g et q k' l f c
   simp only[dR]at c
   subst c
   split at h
   ·rename_i j ents p d
    split at h
    ·split at h
     ·split at h
      ·cases h;exact⟨q,ents,_,rfl,d,rfl⟩
      ·cases h
     ·cases h;exact⟨q,ents,_,rfl,d,rfl⟩
     ·cases h
    ·cases h
   ·cases h
  ·cases h
 unfold RB at e
 split at e
 ·rename_i b
  cases e
  unfold evalW at h
  simp only[b,aM]at h
  exact upd h
 ·rename_i b
  cases e
  unfold evalW at h
  simp only[b,aM]at h
  exact upd h
 ·rename_i ty t' k b
  cases e
  unfold evalW at h
  simp only[b,aM]at h
  unfold iH at h
  split at h
  ·rename_i g et q k' f c u
   split at h
   ·rename_i j ents p d
    split at h
    ·split at h
     ·split at h
      ·simp only[bO]at h
       obtain⟨v,_,h⟩:=h
       cases h
       simp only[dR]at c
       exact⟨q,ents,_,by rw[c];rfl,d,rfl⟩
      ·cases h
     ·simp only[bO]at h
      obtain⟨v,_,h⟩:=h
      cases h
      simp only[dR]at c
      exact⟨q,ents,_,by rw[c];rfl,d,rfl⟩
     ·cases h
    ·cases h
   ·cases h
  ·cases h
 ·rename_i k t' m l b
  cases e
  unfold evalW at h
  simp only[b,aM]at h
  unfold fD at h
  split at h
  ·rename_i q A n z f c u
   split at h
   ·rename_i ents d
    split at h
    ·split at h
     ·cases h
      simp only[dR]at f
      exact⟨q,ents,_,by rw[f];rfl,d,rfl⟩
     ·cases h
    ·cases h
   ·cases h
  ·cases h
 ·cases e
theorem RC{g:db}{r:Ref}{ents:List AV}(h:jO g r=some ents) : ∃b,g r=some b/\b.arr=false:=by
 unfold jO at h
 split at h
 ·rename_i e;exact⟨_,e,rfl⟩
 ·cases h
theorem yt.map{H:ai}{r:Ref}{ents a:List AV}(g:jO H.get r=some ents):yt H (H.put r (some (bn a))):=by
 obtain⟨j,c,f⟩:=RC g
 refine⟨λd t=>?_,λq h=>?_,λq b1 b' h k b=>?_⟩
 ·rw[ai.mO _ _ _ (by rw[c];rfl)];exact bD _
 ·rw[ai.get_put]at h
  split at h
  ·rename_i e;subst e;exact .inl (by rw[c];simp)
  ·exact .inl h
 ·rw[ai.get_put]at b
  split at b
  ·rename_i e;subst e
   cases b
   rw[c]at h;cases h
   rw[f];rfl
  ·rw[h]at b;cases b;rfl
theorem Vk{E:Env}{pc:FuncId->List AV->Option AV}{tc:xd->List AV->ai->dv}{H H':ai}{tm:List AV}{r:Ref}{o:Oper}{t:Tmp}(a:Hl o.op=some t){x:AV}(h:evalW E pc tc H tm r o=some (x,H')) :
 ∃m j y z,ju y=ju (cY tm t)/\mI E.P H m j y z=some (x,H'):=by
 unfold Hl at a
 split at a
 ·rename_i c d
  split at a
  ·rename_i k
   split at a
   ·rename_i t' rest b
    cases a
    unfold evalW at h
    simp only[d,k,b]at h
    cases hm:List.mapM (aM tm) (Operand.tmp t :: rest) with
    | none=>rw[hm]at h;simp at h
    | some args=>
     rw[hm]at h
     simp only[lX,aM,sW,tM,fy,gE]at hm
     obtain⟨l,a,e⟩:=hm
     simp at e
     subst e
     simp only at h
     split at h
     ·rename_i s y g f
      cases f
      exact⟨_,_,_,_,rfl,h⟩
     ·rename_i g f;cases g
     ·cases h
   ·cases a
  ·cases a
 ·cases a
theorem NR{P:Program}{H H':ai}{t:TypeId}{a x:Option AV}{y:AV}(h:nc P H t a x=some (y,H'))(d k:Nat):H'.gen d k=H.gen d k:=by
 unfold nc at h
 split at h
 ·split at h
  ·rename_i r' i j z n _ b g
   obtain⟨⟨m,p,u⟩,h⟩:=fa.1 h
   split at h
   ·split at h
    ·rename_i v q
     split at h
     ·cases h
     ·rename_i f
      obtain⟨l,h⟩:=fa.1 h
      simp only[bO]at h
      obtain⟨c,e,h⟩:=h
      cases h
      rw[ai.mO _ _ _ (by rw[ai.eB];unfold vF;rw[if_neg f,g];rfl),ai.ko]
    ·cases h
   ·simp only[bO]at h
    obtain⟨c,e,h⟩:=h
    cases h
    rw[ai.mO _ _ _ (by rw[g];rfl)]
  ·cases h
 ·cases h
theorem Lf{P:Program}{M:Mem}{ι:Map}{g:db}{w:World}(v:gA M ι g w){t:TypeId}{n:Nat}(D:aJ P t=some n){r:Ref}{i j:Nat}{x:AV}{u c:Value}(B:VR M ι (.ptr r i j) u)(L:VR M ι x c)
 {b:bA} (z:g r=some b) (K:x.cells.length=n) (p:x.cells.all AV.one=true) (k:b.k8=false) (f:b.arr=false) {a:List AV} (q:jt b.es i j x.cells=some a) :
 ∃w',(Instr.storeAt t u c).run P w = .ok () w'/\gA M ι (ku g r { b with es:=a}) w'/\tA M ι g w M ι (ku g r { b with es:=a}) w':=by
 cases B with | ptr y e=>
 rename_i l
 have m:=v.at y e z
 have d:=L.cells
 have h:c.cells.size=n:=by have:=d.1;simp at this;omega
 obtain⟨arr,T,fz,F,C,I,G,J,A⟩:=FL v z y e k q p (us:=c.cells.toList) (by rw[bA.map,if_neg (by simp[f])];exact d)
 refine⟨bQ w l.b (.cells (cr arr (i * b.esz+j) c.cells.toList) T fz),?_,J,A⟩
 rw[m.esz]
 exact Ag D h F C I G
section
variable{E:Env}{pc:FuncId->List AV->Option AV}{tc:xd->List AV->ai->dv}{nt dep:Nat}{ops:Array Oper}{sts:Nat->St}
variable(hL:aaX E ops)(hrun : ∀i o,ops[i]?=some o->evalOp E pc tc nt dep true ops o (sts i)=some (sts (i+1)))
abbrev makes(sts:Nat->St)(j:Nat)(q:Ref):Prop:=Made (sts j).hp (sts (j+1)).hp q
abbrev turns(sts:Nat->St)(j:Nat)(q:Ref):Prop:=(sts (j+1)).hp.get q≠(sts j).hp.get q
theorem V8{o:Oper}{st b:St}{t:Tmp}(a:Y1 o.op=some t)(h:evalOp E pc tc nt dep true ops o st=some b) :
 b.hp=st.hp\/(∃f,b.hp=keyed ⟨dep,o.dst.getD 0,st.hp.gen dep (o.dst.getD 0),0⟩ 0 f st.hp) \/∃c n i x,kg E.P st.hp ⟨dep,o.dst.getD 0,st.hp.gen dep (o.dst.getD 0),0⟩ c n (some [(i,cY st.tm t)])=some (x,b.hp):=by
 unfold evalOp at h
 split at h
 ·cases h
 ·simp only[bO]at h
  obtain⟨tm',g,rfl⟩:=h
  exact .inl rfl
 ·split at h
  ·rename_i x f k
   simp only[bO]at h
   obtain⟨tm',g,rfl⟩:=h
   exact .inr (.inl ⟨f,rfl⟩)
  ·split at h
   ·cases h
   ·split at h
    ·rename_i x H d
     simp only[bO]at h
     obtain⟨tm',g,rfl⟩:=h
     unfold Y1 at a
     split at a
     ·rename_i c n ps j
      split at a
      ·rename_i i t' e
       cases a
       unfold evalW at d
       simp only[j,e]at d
       exact .inr (.inr ⟨c,n,i,x,d⟩)
      ·cases a
     ·cases a
    ·cases h
theorem AP{o:Oper}{st c:St}(a:cls E o=0\/cls E o=1)(h:evalOp E pc tc nt dep true ops o st=some c):c.hp=st.hp:=by
 rcases oo h with ⟨_,tm',d,he⟩ | ⟨_,x,f,e,tm',d,he⟩ | b
 ·rw[he]
 ·rw[he]
  rcases a with a | a
  ·rw[(xT (Hd a) e).1];rfl
  ·obtain⟨t,d,_,_⟩:=KA a
   rw[(look_nil d e).1];rfl
 ·rcases a with a | a
  ·have:=Hd a;rw[gC b]at this;cases this
  ·obtain⟨t,d,_,hw⟩:=KA a
   rw[hw]at b;cases b
theorem Gk{o:Oper}{st a:St}{ty:TypeId}{t:Tmp}{d:Operand}(b:o.op = .store ty (.tmp t) d)(h:evalOp E pc tc nt dep true ops o st=some a)(e:wanted ops st.tm o=some true) :
 ∃y,nc E.P st.hp ty (some (cY st.tm t)) (aM st.tm d)=some (y,a.hp)/\dn nt st.tm o.dst y=some a.tm:=by
 unfold evalOp at h
 rw[e]at h
 have g:ct E pc true st.hp.get st.tm ⟨dep,o.dst.getD 0,st.hp.gen dep (o.dst.getD 0),0⟩ o=none:=by unfold ct;simp only[b]
 rw[g]at h
 simp only at h
 split at h
 ·cases h
 ·split at h
  ·rename_i x H c
   simp only[bO]at h
   obtain⟨tm',f,rfl⟩:=h
   unfold evalW at c
   simp only[b]at c
   exact⟨x,c,f⟩
  ·cases h
theorem step_map{o:Oper}{st a:St}{t:Tmp}(d:RB o.op=some t)(h:evalOp E pc tc nt dep true ops o st=some a) :
 a.hp=st.hp\/(∃c,a.hp=keyed ⟨dep,o.dst.getD 0,st.hp.gen dep (o.dst.getD 0),0⟩ 0 c st.hp) \/∃q ents b,ju (cY st.tm t)=some q/\jO st.hp.get q=some ents/\a.hp=st.hp.put q (some (bn b)):=by
 unfold evalOp at h
 split at h
 ·cases h
 ·simp only[bO]at h
  obtain⟨tm',e,rfl⟩:=h
  exact .inl rfl
 ·split at h
  ·rename_i x c g
   simp only[bO]at h
   obtain⟨tm',e,rfl⟩:=h
   exact .inr (.inl ⟨c,rfl⟩)
  ·split at h
   ·cases h
   ·split at h
    ·rename_i x H f
     simp only[bO]at h
     obtain⟨tm',e,rfl⟩:=h
     exact .inr (.inr (Uw d f))
    ·cases h
theorem QD{o:Oper}{st d:St}(j:pR E o=true)(h:evalOp E pc tc nt dep true ops o st=some d):d.hp=st.hp:=by
 obtain⟨c,g,e,f,hm,l,m⟩:=LH j
 unfold evalOp at h
 split at h
 ·cases h
 ·simp only[bO]at h
  obtain⟨tm',k,rfl⟩:=h
  rfl
 ·split at h
  ·rename_i x n b
   exfalso
   unfold ct at b
   simp only[e,f]at b
   split at b
   ·cases b
   ·simp only[yW,aM,kn,hm,if_true,Ek]at b
    cases b
  ·split at h
   ·cases h
   ·split at h
    ·rename_i x H a
     simp only[bO]at h
     obtain⟨tm',k,rfl⟩:=h
     unfold evalW at a
     simp only[e,f]at a
     split at a
     ·cases a
     ·rw[l]at a
      cases hw:mT E pc tc st.hp ⟨dep,o.dst.getD 0,st.hp.gen dep (o.dst.getD 0),0⟩ (aM st.tm (.func g)) _ with
      | none=>rw[hw]at a;simp[p8]at a
      | some p=>
       obtain⟨y,H'⟩:=p
       rw[hw]at a
       unfold p8 at a
       simp only at a
       split at a
       ·cases a;rfl
       ·cases a
    ·cases h
theorem SV{o:Oper}{st a:St}{t:Tmp}(e:Hl o.op=some t)(h:evalOp E pc tc nt dep true ops o st=some a) :
 a.hp=st.hp\/(∃d,a.hp=keyed ⟨dep,o.dst.getD 0,st.hp.gen dep (o.dst.getD 0),0⟩ 0 d st.hp) \/∃b c y z x,ju y=ju (cY st.tm t)/\mI E.P st.hp b c y z=some (x,a.hp):=by
 unfold evalOp at h
 split at h
 ·cases h
 ·simp only[bO]at h
  obtain⟨tm',f,rfl⟩:=h
  exact .inl rfl
 ·split at h
  ·rename_i x d l
   simp only[bO]at h
   obtain⟨tm',f,rfl⟩:=h
   exact .inr (.inl ⟨d,rfl⟩)
  ·split at h
   ·cases h
   ·split at h
    ·rename_i x H g
     simp only[bO]at h
     obtain⟨tm',f,rfl⟩:=h
     obtain⟨b,c,y,z,j,k⟩:=Vk e g
     exact .inr (.inr ⟨b,c,y,z,x,j,k⟩)
    ·cases h
theorem GQ{H:ai}{d t:Nat}{a:List bA}{q:Ref}(h:(keyed ⟨d,t,H.gen d t,0⟩ 0 a H).get q≠H.get q):Made H (keyed ⟨d,t,H.gen d t,0⟩ 0 a H) q:=by
 rw[ai.lD]at h
 unfold sM at h
 split at h
 ·rename_i j
  obtain⟨c,f,b,g⟩:=j
  refine⟨?_,?_⟩
  ·rw[c,f,b];exact bD _
  ·rw[ai.kX,if_pos ⟨c,f,by intro e;rw[e]at g;simp at g⟩,b];exact qJ _
 ·exact absurd rfl h
include hrun in
theorem JV{i n:Nat}(a:i<=n)(f:n<=ops.size){t:Tmp}(c : ∀k,iQ ops k=some t->k<i):cY (sts n).tm t=cY (sts i).tm t:=by
 induction n with
 | zero=>rw[Fw.1 a]
 | succ n d=>
  rcases fe n i with h | h
  ·rw[show i=n+1 by omega]
  ·have b:=jS (show n<ops.size from f)
   obtain⟨x,g⟩:=Lh (hrun n _ b)
   rw[vV g,if_neg,d h (by omega)]
   intro e
   have:=c n (by simp[iQ,b,e])
   omega
variable(hbf:ops.toList.all (Hi E (sts ops.size))=true)
include hL hrun hbf
theorem Gh{i:Nat}{o:Oper}(I:ops[i]?=some o):yt (sts i).hp (sts (i+1)).hp/\(cls E o<3 ->∀d t,(sts (i+1)).hp.gen d t=(sts i).hp.gen d t) /\
 (cls E o≠2 ->∀q,turns sts i q->makes sts i q\/cls E o=4 /\∃t,mB E o=some t/\ju (cY (sts i).tm t)=some q):=by
 have h:=hrun i o I
 have Y:=D9 E o
 have O:cls E o=0\/cls E o=1\/cls E o=2\/cls E o=3\/cls E o=4:=by omega
 have same:(sts (i+1)).hp=(sts i).hp->yt (sts i).hp (sts (i+1)).hp/\(cls E o<3 ->∀d t,(sts (i+1)).hp.gen d t=(sts i).hp.gen d t) /\
  (cls E o≠2 ->∀q,turns sts i q->makes sts i q\/cls E o=4 /\∃t,mB E o=some t/\ju (cY (sts i).tm t)=some q):=by
  intro e
  refine⟨by rw[e];exact yt.refl _,λ_ d t=>by rw[e],λ_ q f=>?_⟩
  unfold turns at f
  rw[e]at f
  exact absurd rfl f
 rcases O with c | c | c | c | c
 ·exact same (AP (.inl c) h)
 ·exact same (AP (.inr c) h)
 ·obtain⟨ty,t,x,R,hs⟩:=Qk c
  cases B:wanted ops (sts i).tm o with
  | none=>unfold evalOp at h;rw[B]at h;cases h
  | some b=>
   cases b with
   | false=>
    unfold evalOp at h;rw[B]at h
    simp only[bO]at h
    obtain⟨tm',_,e⟩:=h
    exact same (by rw[<-e])
   | true=>
    obtain⟨y,U,_⟩:=Gk R h B
    exact⟨KW U,λ_ d t=>NR U d t,λZ=>absurd c Z⟩
 ·have Q:=(A5 c).2
  rcases oo h with ⟨_,tm',p,he⟩ | ⟨_,x,l,f,tm',p,he⟩ | u
  ·exact same (by rw[he])
  ·have e:(sts (i+1)).hp=keyed ⟨dep,o.dst.getD 0,(sts i).hp.gen dep (o.dst.getD 0),0⟩ 0 l (sts i).hp:=by rw[he]
   refine⟨by rw[e];exact yt.keyed _ _ _ _,λm=>by omega,λ_ q f => .inl ?_⟩
   unfold turns at f
   unfold makes
   rw[e]at f ⊢
   exact GQ f
  ·rw[Q]at u;cases u
 ·cases D:pR E o with
  | true=>exact same (QD D h)
  | false=>
  obtain⟨t,p,K⟩:=hL.stay i o I (by omega) (by omega) D
  have S : ∀l,(sts (i+1)).hp=keyed ⟨dep,o.dst.getD 0,(sts i).hp.gen dep (o.dst.getD 0),0⟩ 0 l (sts i).hp->yt (sts i).hp (sts (i+1)).hp/\(cls E o<3 ->∀d t,(sts (i+1)).hp.gen d t=(sts i).hp.gen d t) /\
   (cls E o≠2 ->∀q,turns sts i q->makes sts i q\/cls E o=4 /\∃t,mB E o=some t/\ju (cY (sts i).tm t)=some q):=by
   intro l e
   refine⟨by rw[e];exact yt.keyed _ _ _ _,λm=>by omega,λ_ q f => .inl ?_⟩
   unfold turns at f
   unfold makes
   rw[e]at f ⊢
   exact GQ f
  cases F:Bb o.op with
  | false=>
   have j:Gb o.op=some t:=by rw[MY c,F]at p;simpa using p
   cases A:RB o.op with
   | some t'=>
    have e':t'=t:=by unfold Gb at j;rw[A]at j;simpa using j
    subst e'
    rcases step_map A h with e | ⟨l,e⟩ | ⟨q,ents,L,f,hm,e⟩
    ·exact same e
    ·exact S l e
    ·refine⟨by rw[e];exact yt.map hm,λm=>by omega,λ_ q' g => .inr ⟨c,t',p,?_⟩⟩
     unfold turns at g
     rw[e,ai.get_put]at g
     split at g
     ·rename_i W;subst W;exact f
     ·exact absurd rfl g
   | none=>
   have hap:Hl o.op=some t:=by unfold Gb at j;rw[A]at j;exact j
   rcases SV hap h with e | ⟨l,e⟩ | ⟨t1,t2,y,z,x,hy,T⟩
   ·exact same e
   ·exact S l e
   ·obtain⟨hm,r,V,f⟩:=JI T
    refine⟨hm,λm=>by omega,λ_ q g=>?_⟩
    rcases f q g with k | k
    ·exact .inl k
    ·subst k;exact .inr ⟨c,t,p,by rw[<-hy];exact V⟩
  | true=>
   have G:Y1 o.op=some t:=by rw[MY c,F]at p;simpa using p
   rcases V8 G h with e | ⟨l,e⟩ | ⟨t1,n,i',x,T⟩
   ·exact same e
   ·exact S l e
   ·obtain⟨hm,f⟩:=Dy T
    refine⟨hm,λm=>by omega,λ_ q g=>?_⟩
    rcases f q g with k | k
    ·exact .inl k
    ·refine .inr ⟨c,t,p,?_⟩
     have N:(E.k8 o&&Bb o.op)=true:=by
      have B:jj E o=true:=by
       unfold cls at c
       split at c
       ·split at c
        ·cases c
        ·split at c
         ·cases c
         ·split at c
          ·assumption
          ·cases c
       ·cases c
      unfold jj at B
      rcases Jz.1 B with C | C
      ·exfalso
       replace C:=(xn.1 C).2
       unfold Bb at F
       split at F
       ·rename_i J;rw[J]at C;cases C
       ·cases F
      ·exact C
     have X:i<ops.size:=(ij.1 I).1
     have a:=fZ.1 hbf o (fC (i:=i) (by simpa using I))
     unfold Hi at a
     rw[N,G]at a
     simp only[zZ,Ds]at a
     rw[JV hrun (iB X) (bD ops.size) K]at a
     simp only[p6,Jo,bY,zu,FG,sV]at k
     revert a k
     generalize cY (sts i).tm t=v
     intro a k
     cases v with
     | cC r off len cap=>simp only[ax,depth,uC]at k;rw[k];rfl
     | v y=>simp[ax,depth]at k
     | _=>cases a
theorem sd{i n:Nat}(a:i<=n)(c:n<=ops.size)(d t:Nat):(sts i).hp.gen d t<=(sts n).hp.gen d t:=by
 induction n with
 | zero=>rw[Fw.1 a];exact bD _
 | succ n b=>
  rcases fe n i with h | h
  ·rw[show i=n+1 by omega];exact bD _
  ·exact uA (b h (by omega)) ((Gh hL hrun hbf (jS (show n<ops.size from c))).1.gen d t)
theorem N0{M:Mem}{ι:Map}{w:World}(hS0:gA M ι (sts 0).hp.get w)(hD0:tB ι (sts 0).hp){n:Nat}(f:n<=ops.size) : ∀q,(sts n).hp.get q≠none->q.g<(sts n).hp.gen q.d q.t:=by
 induction n with
 | zero=>
  intro q h
  cases c:(sts 0).hp.get q with
  | none=>exact absurd c h
  | some k=>obtain⟨l,j,_⟩:=hS0.live q k c;exact hD0 q l j
 | succ n e=>
  intro q h
  have b:=(Gh hL hrun hbf (jS (show n<ops.size from f))).1
  rcases b.born q h with a | a
  ·exact El (e (by omega) q a) (b.gen _ _)
  ·exact a.2
theorem adL{M:Mem}{ι:Map}{w:World}(hS0:gA M ι (sts 0).hp.get w)(hD0:tB ι (sts 0).hp){i:Nat}{r:Ref}{b:bA}(c:(sts i).hp.get r=some b){n:Nat}(g:i<=n)(p:n<=ops.size) : ∀b',(sts n).hp.get r=some b'->b'.arr=b.arr:=by
 induction n with
 | zero=>intro b' h;rw[Fw.1 g]at c;rw[c]at h;cases h;rfl
 | succ n m=>
  intro b' h
  rcases fe n i with l | a
  ·rw[show i=n+1 by omega]at c;rw[c]at h;cases h;rfl
  ·have j:=(Gh hL hrun hbf (jS (show n<ops.size from p))).1
   rcases j.born r (by rw[h];simp)with e | e
   ·cases f:(sts n).hp.get r with
    | none=>exact absurd f e
    | some k=>rw[j.arr r k b' f (N0 hL hrun hbf hS0 hD0 (by omega) r e) h];exact m a (by omega) k f
   ·have q:=N0 hL hrun hbf hS0 hD0 (show i<=ops.size by omega) r (by rw[c];simp)
    have u:=sd hL hrun hbf a (by omega) r.d r.t
    have:=e.1
    omega
theorem DT{j b:Nat}{q:Ref}(f:j<ops.size)(c:b<ops.size)(h:makes sts j q)(e:makes sts b q):j=b:=by
 rcases Dw j b with a | rfl | a
 ·have:=sd hL hrun hbf (show j+1<=b from a) (iB c) q.d q.t
  have:=h.2;have:=e.1
  omega
 ·rfl
 ·have:=sd hL hrun hbf (show b+1<=j from a) (iB f) q.d q.t
  have:=e.2;have:=h.1
  omega
theorem Aq{j:Nat}{q:Ref}{o:Oper}(c:ops[j]?=some o)(h:makes sts j q):3<=cls E o:=by
 rcases fe (cls E o) 3 with b | a
 ·have:=(Gh hL hrun hbf c).2.1 b q.d q.t
  have e:=h.1;have f:=h.2
  omega
 ·exact a
variable{M:Mem}{ι:Map}{w:World}
variable(hS0:gA M ι (sts 0).hp.get w)(hD0:tB ι (sts 0).hp)(hap:(rB E ops).all (Et (sts ops.size).tm)=true)(hsf:ops.toList.all (xM (sts ops.size))=true)
include hS0 hD0 hsf
theorem Px{i:Nat}{o:Oper}(m:ops[i]?=some o)(N:cls E o=2)(Q:wanted ops (sts i).tm o=some true) :
 ∃ty t k r l j b x n d,o.op = .store ty (.tmp t) k/\mB E o=some t/\cY (sts i).tm t = .ptr r l j/\(sts i).hp.get r=some b/\b.arr=false/\b.k8=false/\aM (sts i).tm k=some x/\aJ E.P ty=some n /\
  x.cells.length=n/\x.cells.all AV.one=true/\jt b.es l j x.cells=some d/\(sts (i+1)).hp=(sts i).hp.put r (some { b with es:=d})/\dn nt (sts i).tm o.dst AV.undef=some (sts (i+1)).tm:=by
 have F:i<ops.size:=(ij.1 m).1
 obtain⟨ty,t,k,g,q⟩:=Qk N
 obtain⟨y,c,R⟩:=Gk g (hrun i o m) Q
 obtain⟨t',h,A⟩:=hL.stay i o m (by omega) (by omega) (sH q)
 rw[q]at h;cases h
 have f:=JV hrun (iB F) (bD ops.size) A
 have a:=fZ.1 hsf o (fC (i:=i) (by simpa using m))
 unfold xM at a
 rw[g]at a
 simp only[f]at a
 have K:=c
 unfold nc at c
 split at c
 ·rename_i r' l j L n u G O
  simp only[dR]at u
  rw[u]at a
  simp only at a
  split at c
  ·rename_i b D
   obtain⟨⟨v,z,B⟩,c⟩:=fa.1 c
   have e:b.arr=false:=by
    split at a
    ·rename_i b' p
     rw[<-adL hL hrun hbf hS0 hD0 D (iB F) (bD _) b' p]
     simpa using a
    ·cases a
   rw[if_neg (by simp[e])]at c
   simp only[bO]at c
   obtain⟨d,C,c⟩:=c
   injection c with I J
   subst I
   exact⟨ty,t,k,r',l,j,b,L,n,d,g,q,u,D,e,B,G,O,v,z,C,J.symm,R⟩
  ·cases c
 ·cases c
theorem Gg{j:Nat}{o:Oper}(a:ops[j]?=some o){q:Ref}(h:turns sts j q):makes sts j q\/(cls E o=2\/cls E o=4) /\∃t,mB E o=some t/\ju (cY (sts j).tm t)=some q:=by
 by_cases d:cls E o=2
 ·cases hw:wanted ops (sts j).tm o with
  | none=>have:=hrun j o a;unfold evalOp at this;rw[hw]at this;cases this
  | some b=>
   cases b with
   | false=>
    have:=hrun j o a;unfold evalOp at this;rw[hw]at this
    simp only[bO]at this
    obtain⟨tm',_,e⟩:=this
    unfold turns at h
    rw[<-e]at h
    exact absurd rfl h
   | true=>
    obtain⟨ty,t,v,r,y,p,b,x,n,m,l,f,g,u,_,_,_,_,_,_,_,he,_⟩:=Px hL hrun hbf hS0 hD0 hsf a d hw
    refine .inr ⟨.inl d,t,f,?_⟩
    unfold turns at h
    rw[he,ai.get_put]at h
    split at h
    ·rename_i e;subst e;rw[g];rfl
    ·exact absurd rfl h
 ·rcases(Gh hL hrun hbf a).2.2 d q h with c | ⟨c,k⟩
  ·exact .inl c
  ·exact .inr ⟨.inr c,k⟩
omit hrun hS0 hD0 hsf hL hbf in
theorem T7{L:Nat->Bool}(c:Closed ops L){i:Nat}{o:Oper}(m:ops[i]?=some o)(k:L i=false)(g : ∀e∈eI o,L e=true){j:Nat}{f:Oper}(b:ops[j]?=some f)
 (h:j<i->((du ops.toList []).getD i 0).testBit j=true) (n:i<j->((du ops.toList []).getD j 0).testBit i=true):(L j=true↔j<i):=by
 constructor
 ·intro d
  rcases Dw j i with a | rfl | a
  ·exact a
  ·rw[k]at d;cases d
  ·have:=vi c j f b (λe l=>c j f d b e l) i (n a)
   rw[k]at this;cases this
 ·intro a
  exact vi c i o m g j (h a)
omit hS0 hD0 hsf hbf in
include hap in
theorem T6{L:Nat->Bool}(O:Closed ops L){i:Nat}{o:Oper}(u:ops[i]?=some o)(K:L i=false)(F : ∀e∈eI o,L e=true)(f:cls E o=1\/cls E o=2){t:Tmp}(x:mB E o=some t){q:Ref}(y:ju (cY (sts i).tm t)=some q)
 {j:Nat} {l:Oper} (k:ops[j]?=some l) (c:cls E l=2\/cls E l=4) {t':Tmp} (m:mB E l=some t') (p:ju (cY (sts j).tm t')=some q):(L j=true↔j<i):=by
 have C:i<ops.size:=(ij.1 u).1
 have D:j<ops.size:=(ij.1 k).1
 obtain⟨t1,G,s1⟩:=hL.stay i o u (by omega) (by omega) (sH x)
 obtain⟨t2,I,s2⟩:=hL.stay j l k (by omega) (by omega) (sH m)
 rw[x]at G;cases G
 rw[m]at I;cases I
 have N:=JV hrun (iB C) (bD ops.size) s1
 have J:=JV hrun (iB D) (bD ops.size) s2
 rw[<-N]at y
 rw[<-J]at p
 have Q : ∀a b,mB E a=some t->mB E b=some t' ->¬(settled E ops a b=true):=by
  intro a b A z d
  unfold settled at d
  rw[A,z]at d
  simp only[ff,JA]at d
  have g:=fZ.1 hap
  rcases d with d | d
  ·have:=g _ d
   unfold Et at this
   simp only[y,p]at this
   simp at this
  ·have:=g _ d
   unfold Et at this
   simp only[y,p]at this
   simp at this
 have B : ∀a b,mB E a=some t'->mB E b=some t ->¬(settled E ops a b=true):=by
  intro a b A z d
  unfold settled at d
  rw[A,z]at d
  simp only[ff,JA]at d
  have g:=fZ.1 hap
  rcases d with d | d
  ·have:=g _ d
   unfold Et at this
   simp only[y,p]at this
   simp at this
  ·have:=g _ d
   unfold Et at this
   simp only[y,p]at this
   simp at this
 refine T7 O u K F k (λn=>?_) (λn=>?_)
 ·by_cases v:CQ (cls E o) (cls E l)=true
  ·rcases hL.meet i j o l u k n v (sH x) (sH m)with h | h
   ·exact h
   ·exact absurd h (Q o l x m)
  ·refine hL.must i j o l u k n ?_
   unfold qb blind
   rcases f with f | f<;>rcases c with c | c<;>rw[f,c]at v ⊢ <;> first | rfl | exact absurd rfl v
 ·by_cases v:CQ (cls E l) (cls E o)=true
  ·rcases hL.meet j i l o k u n v (sH m) (sH x)with h | h
   ·exact h
   ·exact absurd h (B l o m x)
  ·refine hL.must j i l o k u n ?_
   unfold qb blind
   rcases f with f | f<;>rcases c with c | c<;>rw[f,c]at v ⊢ <;> first | rfl | exact absurd rfl v
omit hrun hS0 hD0 hsf hbf in
theorem tj{L:Nat->Bool}(x:Closed ops L){i:Nat}{o:Oper}(m:ops[i]?=some o)(u:L i=false)(p : ∀e∈eI o,L e=true)(v:3<=cls E o)
 {j:Nat} {d:Oper} (g:ops[j]?=some d) (l:blind E o=false\/cls E d≠2) (k:oH E o d=false/\oH E d o=false) (c:cls E d=2\/cls E d=4\/cls E o=4/\3<=cls E d):(L j=true↔j<i):=by
 have y:=D9 E o
 have z:=D9 E d
 have q:qb E o d=true/\qb E d o=true:=by
  unfold qb
  rw[k.1,k.2]
  have a:cls E o=3\/cls E o=4:=by omega
  rcases c with c | c | ⟨n,c⟩
  ·have t:=l.resolve_right (λh=>h c)
   rcases a with a | a<;>rw[a,c,t]<;>exact⟨rfl,rfl⟩
  ·rcases a with a | a<;>rw[a,c]<;>simp
  ·have b:cls E d=3\/cls E d=4:=by omega
   rcases b with b | b<;>rw[n,b]<;>simp
 exact T7 x m u p g (λf=>hL.must i j o d m g f q.1) (λf=>hL.must j i d o g m f q.2)
end
end Go.Ab
namespace Go.Ab
section
variable{E:Env}{pc:FuncId->List AV->Option AV}{tc:xd->List AV->ai->dv}{nt dep:Nat}{ops:Array Oper}{sts:Nat->St}
variable(hL:aaX E ops)(hrun : ∀i o,ops[i]?=some o->evalOp E pc tc nt dep true ops o (sts i)=some (sts (i+1)))
variable{M:Mem}{ι:Map}{w:World}{ds:List Deferred}
structure Vv (E:Env) (ops:Array Oper) (sts:Nat->St) (M:Mem) (ι:Map) (w:World) (L:Nat->Bool) (M1:Mem) (ι1:Map) (g1:db) (c:Nat) (w1:World):Prop where
 sim:gA M1 ι1 g1 w1
 fwd:tA M ι (sts 0).hp.get w M1 ι1 g1 w1
 le:c<=ops.size
 cut : ∀j o,j<c->ops[j]?=some o->3<=cls E o->L j=true
 hand : ∀q,ι1 q≠none->q.g<(sts c).hp.gen q.d q.t \/∃j,j<ops.size/\L j=true/\c<=j/\makes sts j q
 get : ∀q,∃n,n<=ops.size/\g1 q=(sts n).hp.get q /\∀j,j<ops.size->turns sts j q->(L j=true↔j<n)
structure Vw (E:Env) (nt:Nat) (ops:Array Oper) (sts:Nat->St) (M:Mem) (ι:Map) (w:World) (ds:List Deferred) (L:Nat->Bool) (a1:Act) (w1:World):Prop where
 closed:Closed ops L
 defers:a1.defers=ds
 at_ : ∃M1 ι1 tm1 g1 c,TS ops sts L tm1/\TR M1 ι1 tm1 a1/\a1.tmps.size=nt/\Vv E ops sts M ι w L M1 ι1 g1 c w1
theorem Bo{a b:Nat}{q:Ref}(h:a<=b)(d : ∀j,a<=j->j<b ->¬turns sts j q):(sts b).hp.get q=(sts a).hp.get q:=by
 induction b with
 | zero=>rw[Fw.1 h]
 | succ b f=>
  rcases fe b a with g | c
  ·rw[show a=b+1 by omega]
  ·have:=d b c (qJ b)
   unfold turns at this
   rw[zX.1 this]
   exact f c λj e k=>d j e (by omega)
theorem Vv.Nf{L:Nat->Bool}{p:Mem}{f:Map}{m:db}{c:Nat}{t:World}(h:Vv E ops sts M ι w L p f m c t){q:Ref}{i:Nat}(x:i<=ops.size)(l : ∀j,j<ops.size->turns sts j q->(L j=true↔j<i)):m q=(sts i).hp.get q:=by
 obtain⟨n,v,e,k⟩:=h.get q
 rw[e]
 rcases Nat.le_total n i with hle | hle
 ·exact(Bo hle λj u g d=>by
   have a:=k j (by omega) d
   have b:=l j (by omega) d
   have:=a.1 (b.2 g)
   omega).symm
 ·exact Bo hle λj u g d=>by
   have a:=k j (by omega) d
   have b:=l j (by omega) d
   have:=b.1 (a.2 g)
   omega
variable(hbf:ops.toList.all (Hi E (sts ops.size))=true)
include hL hrun hbf
theorem CR{L:Nat->Bool}{v:Mem}{a:Map}{z:db}{c:Nat}{x:World}(hS0:gA M ι (sts 0).hp.get w)(hD0:tB ι (sts 0).hp)(h:Vv E ops sts M ι w L v a z c x){i:Nat}(u:i<ops.size)(D:L i=false){q:Ref}
 (A:(sts i).hp.get q≠none) (B:a q≠none) {j:Nat} (e:j<ops.size) (k:makes sts j q):(L j=true↔j<i):=by
 constructor
 ·intro f
  rcases fe j i with b | m
  ·exact b
  ·have y:=N0 hL hrun hbf hS0 hD0 (iB u) q A
   have g:=sd hL hrun hbf m (iB e) q.d q.t
   have:=k.1
   omega
 ·intro b
  rcases h.hand q B with y | ⟨C,l,f,_,p⟩
  ·have n:j<c:=by
    rcases fe j c with g | g
    ·exact g
    ·have:=sd hL hrun hbf g (iB e) q.d q.t
     have:=k.1
     omega
   exact h.cut j _ n (jS e) (Aq hL hrun hbf (jS e) k)
  ·rw[DT hL hrun hbf e l k p];exact f
variable(hS0:gA M ι (sts 0).hp.get w)(hD0:tB ι (sts 0).hp)(hap:(rB E ops).all (Et (sts ops.size).tm)=true)(hsf:ops.toList.all (xM (sts ops.size))=true)
include hS0 hD0 hap hsf
theorem Ix{L:Nat->Bool}(B:Closed ops L){y:Mem}{b:Map}{v:db}{c:Nat}{z:World}(h:Vv E ops sts M ι w L y b v c z){i:Nat}{o:Oper}(x:ops[i]?=some o)(p:L i=false)(n : ∀e∈eI o,L e=true)
 (k:cls E o=1\/cls E o=2) {t:Tmp} (A:mB E o=some t) {q:Ref} (D:ju (cY (sts i).tm t)=some q) (a:(sts i).hp.get q≠none) (F:b q≠none) :
 v q=(sts i).hp.get q /\∀j,j<ops.size->turns sts j q->(L j=true↔j<i):=by
 have f:i<ops.size:=(ij.1 x).1
 have key : ∀j,j<ops.size->turns sts j q->(L j=true↔j<i):=by
  intro j u C
  have d:=jS u
  rcases Gg hL hrun hbf hS0 hD0 hsf d C with hm | ⟨g,t',m,l⟩
  ·exact CR hL hrun hbf hS0 hD0 h f p a F u hm
  ·exact T6 hL hrun hap B x p n k A D d g m l
 exact⟨h.Nf (iB f) key,key⟩
theorem RF(hpc : ∀f xs y,pc f xs=some y->kJ E.P f xs y)(htc : ∀f xs H y H',tc f xs H=some (y,H')->qv E.P f xs H y H'){ro:Option Nat}{Q:Exit->Act->World->Prop}
 {L L':Nat->Bool} {i:Nat} {o:Oper} (ho:ops[i]?=some o) (hi:L i=false) (hed : ∀e∈eI o,L e=true)
 (D : ∀j,L' j=true↔(L j=true\/j=i)) {a1:Act} {w1:World} (hI:Vw E nt ops sts M ι w ds L a1 w1) {K:Act->World->Prop} (hK : ∀a' w',Vw E nt ops sts M ι w ds L' a' w'->K a' w') :
 if Region.wanted o (yielded ops a1.tmps) then o.wpIn (FW ro) 0 E.P a1 w1 K Q else K (a1.put o.dst undef) w1:=by
 obtain⟨hc,hds,M1,S,tm1,g1,c,hTS,O,hnt,G⟩:=hI
 have C:i<ops.size:=(ij.1 ho).1
 have hc':Closed ops L':=Closed.next hc ho hed D
 have hlook : ∀t∈o.looksAt ops,cY tm1 t=cY (sts i).tm t:=λt ht=>Gy hL.toRegB hrun hc ho hi hed hTS ht
 have hag:=AA hlook
 have hwd:=yv hlook
 have step:=hrun i o ho
 have hle4:=D9 E o
 have fin : ∀(u:Value)(x:AV)(F:List AV)(w':World)(M':Mem)(Z:Map),(sts (i+1)).hp=(sts i).hp->dn nt (sts i).tm o.dst x=some (sts (i+1)).tm->dn nt tm1 o.dst x=some F ->
  TR M' Z F (a1.put o.dst u)->(a1.put o.dst u).tmps.size=nt->gA M' Z g1 w'->tA M1 S g1 w1 M' Z g1 w'->(∀q,Z q≠none->S q≠none)->Vw E nt ops sts M ι w ds L' (a1.put o.dst u) w':=by
  intro u x F w' M' Z hsame hx R htr hn hS' hF' hι
  refine⟨hc',(put_defers _ _ _).trans hds,M',Z,F,g1,c,tW hL.toRegB ho D hi hTS hx R,htr,hn,hS',G.fwd.trans hF',G.le,λj oj U A W=>(D j).2 (.inl (G.cut j oj U A W)),λq X=>?_,λq=>?_⟩
  ·rcases G.hand q (hι q X)with h | ⟨j,h1,h2,h3,h4⟩
   ·exact .inl h
   ·exact .inr ⟨j,h1,(D j).2 (.inl h2),h3,h4⟩
  ·obtain⟨n,h1,h2,h3⟩:=G.get q
   refine⟨n,h1,h2,λj U hT=>?_⟩
   have B:j≠i:=by intro e;subst e;exact hT (by rw[hsame])
   rw[<-h3 j U hT,D j]
   simp[B]
 have hkeyfree : ∀k:Nat,S { (⟨dep+1,0,(sts ops.size).hp.gen (dep+1) 0,0⟩:Ref)with k:=k}=none:=by
  intro k
  cases X:S { (⟨dep+1,0,(sts ops.size).hp.gen (dep+1) 0,0⟩:Ref)with k:=k} with
  | none=>rfl
  | some l=>
   exfalso
   rcases G.hand _ (by rw[X];simp)with h | ⟨j,h1,_,_,h4⟩
   ·have:=sd hL hrun hbf G.le (bD _) (dep+1) 0
    simp only at h
    omega
   ·have:=sd hL hrun hbf (show j+1<=ops.size from h1) (bD _) (dep+1) 0
    have:=h4.2
    simp only at this
    omega
 have quiet : ∀ {x:AV} {tm':List AV},(sts (i+1)).hp=(sts i).hp->dn nt (sts i).tm o.dst x=some (sts (i+1)).tm ->
  ct E pc true g1 tm1 ⟨dep+1,0,(sts ops.size).hp.gen (dep+1) 0,0⟩ o=some (x,[])->o.wpIn (FW ro) 0 E.P a1 w1 K Q:=by
  intro x tm' hsame hx X
  obtain⟨F,R⟩:=k6 (tm1:=tm1) hx
  refine xZ (E:=E) (o:=o) G.sim O rfl hkeyfree hpc (λh=>by cases h) X ro K Q λu w' ⟨M',Z,h1,h2,h3,h4⟩=>hK _ _ ?_
  rw[m0]at h2 h3
  obtain⟨h5,h6⟩:=(O.mono h3.mem h3.map).put hnt R h1
  refine fin u x F w' M' Z hsame hx R h5 h6 h2 h3 λq X hn=>X (h4 q hn (λk hk=>by simp at hk))
 have hno:wanted ops (sts i).tm o=some false->if Region.wanted o (yielded ops a1.tmps) then o.wpIn (FW ro) 0 E.P a1 w1 K Q else K (a1.put o.dst undef) w1:=by
  intro hw
  have hw1:=hw
  rw[<-hwd]at hw1
  rw[kW O hw1]
  simp only[jH,if_false]
  unfold evalOp at step
  rw[hw]at step
  simp only[bO]at step
  obtain⟨tm',ht,he⟩:=step
  have hx:dn nt (sts i).tm o.dst AV.undef=some (sts (i+1)).tm:=by rw[<-he];exact ht
  obtain⟨F,R⟩:=k6 (tm1:=tm1) hx
  obtain⟨h1,h2⟩:=O.put hnt R (u:=undef) (.v rfl)
  exact hK _ _ (fin undef AV.undef F w1 M1 S (by rw[<-he]) hx R h1 h2 G.sim tA.refl λ_ h=>h)
 have maker : ∀ {d:Nat} {x:AV} {bs:List bA},3<=cls E o->(sts (i+1)).hp=keyed ⟨dep,d,(sts i).hp.gen dep d,0⟩ 0 bs (sts i).hp->dn nt (sts i).tm o.dst x=some (sts (i+1)).tm ->
  ct E pc true g1 tm1 ⟨dep,d,(sts i).hp.gen dep d,0⟩ o=some (x,bs)->(∀k,S { (⟨dep,d,(sts i).hp.gen dep d,0⟩:Ref)with k:=k}=none)->o.wpIn (FW ro) 0 E.P a1 w1 K Q:=by
  intro d x bs T hhp hx hq' hfree
  obtain⟨F,R⟩:=k6 (tm1:=tm1) hx
  refine xZ (E:=E) (o:=o) G.sim O rfl hfree hpc (λh=>by cases h) hq' ro K Q λu w' ⟨M',Z,h1,h2,h3,h4⟩=>hK _ _ ?_
  obtain⟨h5,h6⟩:=(O.mono h3.mem h3.map).put hnt R h1
  refine⟨hc',(put_defers _ _ _).trans hds,M',Z,F,sM g1 ⟨dep,d,(sts i).hp.gen dep d,0⟩ bs,c,tW hL.toRegB ho D hi hTS hx R,h5,h6,h2,G.fwd.trans h3,G.le,λj oj U A W=>(D j).2 (.inl (G.cut j oj U A W)),λq X=>?_,λq=>?_⟩
  ·by_cases hq1:S q=none
   ·by_cases hk : ∃k,k<bs.length/\q = { (⟨dep,d,(sts i).hp.gen dep d,0⟩:Ref)with k:=k}
    ·obtain⟨k,hk,e⟩:=hk
     refine .inr ⟨i,C,(D i).2 (.inr rfl),?_,?_⟩
     ·rcases fe i c with J | J
      ·have:=G.cut i o J ho (by omega)
       rw[hi]at this;cases this
      ·exact J
     ·subst e
      refine⟨bD _,?_⟩
      simp only
      rw[hhp,ai.kX,if_pos ⟨rfl,rfl,by intro e;rw[e]at hk;simp at hk⟩]
      exact qJ _
    ·exact absurd (h4 q hq1 λk hk' e=>hk ⟨k,hk',e⟩) X
   ·rcases G.hand q hq1 with h | ⟨j,g1',g2,g3,g4⟩
    ·exact .inl h
    ·exact .inr ⟨j,g1',(D j).2 (.inl g2),g3,g4⟩
  ·by_cases hk:q.d=dep/\q.t=d/\q.g=(sts i).hp.gen dep d/\q.k<bs.length
   ·have hmk:makes sts i q:=by
     obtain⟨k1,k2,k3,k4⟩:=hk
     refine⟨by rw[k1,k2,k3];exact bD _,?_⟩
     rw[hhp,ai.kX,if_pos ⟨k1,k2,by intro e;rw[e]at k4;simp at k4⟩,k3]
     exact qJ _
    refine⟨i+1,C,?_,λj U hT=>?_⟩
    ·rw[hhp,ai.lD]
     unfold sM
     rw[if_pos hk,if_pos hk]
    ·rw[D j]
     by_cases B:j=i
     ·subst B;simp
     ·have A:=jS U
      have hturn:turns sts i q:=by
       obtain⟨k1,k2,k3,k4⟩:=hk
       intro e
       have h5:(sts i).hp.get q≠none:=by
        rw[<-e,hhp,ai.lD]
        unfold sM
        rw[if_pos ⟨k1,k2,k3,k4⟩,eC k4]
        simp
       have:=N0 hL hrun hbf hS0 hD0 (iB C) q h5
       rw[k1,k2,k3]at this
       exact absurd this (Bd _)
      have hnot : ¬j<i:=by
       intro hji'
       obtain⟨k1,k2,k3,k4⟩:=hk
       have hlive : ∀m,m<=i->(sts m).hp.get q≠none->False:=by
        intro m hm N
        have h6:=N0 hL hrun hbf hS0 hD0 (uA hm (iB C)) q N
        have h7:=sd hL hrun hbf hm (iB C) q.d q.t
        rw[k1,k2]at h6 h7
        rw[k3]at h6
        omega
       by_cases h8:(sts j).hp.get q=none
       ·exact hlive (j+1) hji' (λh9=>hT (by rw[h8,h9]))
       ·exact hlive j (iB hji') h8
      have:(L j=true↔j<i):=by
       obtain⟨n',k1,k2,k3⟩:=G.get q
       have h9:=k3 i C hturn
       rw[hi]at h9
       have h10:=k3 j U hT
       rw[h10]
       constructor
       ·intro h11
        have : ¬i<n':=λh=>by simpa using h9.2 h
        omega
       ·intro h11;exact absurd h11 hnot
      rw[this]
      constructor
      ·rintro(h | h)
       ·omega
       ·exact absurd h B
      ·intro h;left;omega
   ·obtain⟨n',k1,k2,k3⟩:=G.get q
    refine⟨n',k1,?_,λj U hT=>?_⟩
    ·unfold sM;rw[if_neg hk];exact k2
    ·have B:j≠i:=by
      intro e;subst e
      refine hT ?_
      rw[hhp,ai.lD]
      unfold sM
      rw[if_neg hk]
     rw[<-k3 j U hT,D j]
     simp[B]
 cases hwt:wanted ops (sts i).tm o with
 | none=>unfold evalOp at step;rw[hwt]at step;cases step
 | some b=>
 cases b with
 | false=>exact hno hwt
 | true=>
 have hw1:=hwt
 rw[<-hwd]at hw1
 have hcs:cls E o=0\/cls E o=1\/cls E o=2\/cls E o=3\/cls E o=4:=by omega
 rcases hcs with T | T | T | T | T
 ·
  rw[kW O hw1]
  simp only[if_true]
  have hh:=Hd T
  rcases oo step with ⟨hw,_,_,_⟩ | ⟨hw,x,bs,X,tm',ht,he⟩ | hwk
  ·rw[hwt]at hw;cases hw
  ·obtain⟨hbs,hall⟩:=xT hh X
   subst hbs
   exact quiet (tm':=tm') (AP (.inl T) step) (by rw[he];exact ht) (by rw[tw hag];exact hall _ _)
  ·rw[gC hwk]at hh;cases hh
 ·
  rw[kW O hw1]
  simp only[if_true]
  obtain⟨t,I,hst,hwk⟩:=KA T
  rcases oo step with ⟨hw,_,_,_⟩ | ⟨hw,x,bs,X,tm',ht,he⟩ | hwk'
  ·rw[hwt]at hw;cases hw
  ·obtain⟨hbs,hall⟩:=look_nil I X
   subst hbs
   refine quiet (tm':=tm') (AP (.inr T) step) (by rw[he];exact ht) ?_
   rw[tw hag]
   refine hall g1 _ λq hrq N=>?_
   refine(Ix hL hrun hbf hS0 hD0 hap hsf hc G ho hi hed (.inl T) hst hrq N ?_).1
   have ht1:cY tm1 t=cY (sts i).tm t:=by
    refine hlook t ?_
    unfold Oper.looksAt
    refine NH _ (Ny.2 ⟨.tmp t,?_,rfl⟩)
    unfold Bv at I
    split at I
    ·rename_i V;cases I;rw[V];simp[Op.operands]
    ·rename_i V;cases I;rw[V];simp[Op.operands]
    ·rename_i V;cases I;rw[V];simp[Op.operands]
    ·rename_i V
     split at I
     ·cases I
     ·cases I;rw[V];simp[Op.operands]
    ·rename_i V;cases I;rw[V];simp[Op.operands]
    ·rename_i c V
     split at I
     ·split at I
      ·rename_i hargs
       cases I
       rw[V]
       have:(Operand.tmp t)∈c.args:=by rw[<-Array.mem_toList_iff,hargs];simp
       simp only[Op.operands,Call.operands]
       simp[this]
      ·cases I
     ·cases I
    ·cases I
   have hv:=O.at_ t
   rw[ht1]at hv
   revert hrq hv
   generalize cY (sts i).tm t=v
   generalize a1.tmps.getD t undef=u
   intro hrq hv
   cases hv with
   | ptr hr hzl=>cases hrq;rw[hr];simp
   | cC hr=>cases hrq;rw[hr];simp
   | mp hr=>cases hrq;rw[hr];simp
   | ch hr=>cases hrq;rw[hr];simp
   | _=>cases hrq
  ·rw[hwk]at hwk';cases hwk'
 ·
  rw[kW O hw1]
  simp only[if_true]
  obtain⟨ty,t,xo,r,i',j',b,x,n,es',V,hs,hta,hb,harr,hfr,hxo,hn,hxn,hx1,hes,he,hx⟩:=Px hL hrun hbf hS0 hD0 hsf ho T hwt
  have hmem : ∀y,y = .tmp t\/y=xo->aM tm1 y=aM (sts i).tm y:=by
   intro y hy
   refine hag y ?_
   rw[V]
   rcases hy with rfl | rfl<;>simp[Op.operands]
  have hpv:=aX O (x := .tmp t) (y := .ptr r i' j') (by rw[hmem _ (.inl rfl)];simp only[aM,hta])
  have hxv:=aX O (x:=xo) (y:=x) (by rw[hmem _ (.inr rfl)];exact hxo)
  have hhand:S r≠none:=by
   revert hpv
   generalize a1.eval (.tmp t)=u
   intro hpv
   cases hpv with | ptr hr hzl=>rw[hr];simp
  obtain⟨hg,hord⟩:=Ix hL hrun hbf hS0 hD0 hap hsf hc G ho hi hed (.inr T) hs (q:=r) (by rw[hta];rfl) (by rw[hb];simp) hhand
  rw[hb]at hg
  obtain⟨w',hr,hS',hF'⟩:=Lf (P:=E.P) G.sim hn hpv hxv hg hxn hx1 hfr harr hes
  obtain⟨F,R⟩:=k6 (tm1:=tm1) hx
  have hok:eM E.P o a1 w1 λu w2=>u=undef/\w2=w':=eM.E9 (by simp[execOp,V,hr]) ⟨rfl,rfl⟩
  refine hok ro K Q λu w2 ⟨e1,e2⟩=>hK _ _ ?_
  subst e1;subst e2
  obtain⟨h5,h6⟩:=(O.mono hF'.mem hF'.map).put hnt R (u:=undef) (.v rfl)
  refine⟨hc',(put_defers _ _ _).trans hds,M1,S,F,ku g1 r { b with es:=es'},c,tW hL.toRegB ho D hi hTS hx R,h5,h6,hS',G.fwd.trans hF',G.le,λj oj U A W=>(D j).2 (.inl (G.cut j oj U A W)),λq X=>?_,λq=>?_⟩
  ·rcases G.hand q X with h | ⟨j,h1,h2,h3,h4⟩
   ·exact .inl h
   ·exact .inr ⟨j,h1,(D j).2 (.inl h2),h3,h4⟩
  ·by_cases hqr:q=r
   ·subst hqr
    refine⟨i+1,C,?_,λj U hT=>?_⟩
    ·rw[he,ai.get_put,if_pos rfl];unfold ku;rw[if_pos rfl]
    ·rw[D j]
     by_cases B:j=i
     ·subst B;simp
     ·rw[hord j U hT]
      constructor
      ·rintro(h | h)
       ·omega
       ·exact absurd h B
      ·intro h;left;omega
   ·obtain⟨n',h1,h2,h3⟩:=G.get q
    refine⟨n',h1,?_,λj U hT=>?_⟩
    ·unfold ku;rw[if_neg hqr];exact h2
    ·have B:j≠i:=by
      intro e;subst e
      refine hT ?_
      rw[he,ai.get_put,if_neg hqr]
     rw[<-h3 j U hT,D j]
     simp[B]
 ·
  rw[kW O hw1]
  simp only[if_true]
  obtain⟨hh,hwk⟩:=A5 T
  rcases oo step with ⟨hw,_,_,_⟩ | ⟨hw,x,bs,X,tm',ht,he⟩ | hwk'
  ·rw[hwt]at hw;cases hw
  ·obtain⟨d,hd⟩:=gH.1 (hL.made i o ho T)
   rw[hd,fQ]at X he
   have hx:dn nt (sts i).tm o.dst x=some (sts (i+1)).tm:=by rw[he];exact ht
   obtain⟨F,R⟩:=k6 (tm1:=tm1) hx
   have hhp:(sts (i+1)).hp=keyed ⟨dep,d,(sts i).hp.gen dep d,0⟩ 0 bs (sts i).hp:=by rw[he]
   have hloc:blind E o=false->Dn S (sts i).hp.get g1:=by
    intro hbl q b hg N
    rw[<-hg]
    refine G.Nf (iB C) λj U hT=>?_
    have A:=jS U
    rcases Gg hL hrun hbf hS0 hD0 hsf A hT with hm | ⟨W,_⟩
    ·exact CR hL hrun hbf hS0 hD0 G C hi (by rw[hg];simp) N U hm
    ·exact tj hL hc ho hi hed (by omega) A (.inl hbl) ⟨RN hbl,oG (by omega)⟩ (by omega)
   rw[<-tw hag]at X
   have hq':ct E pc true g1 tm1 ⟨dep,d,(sts i).hp.gen dep d,0⟩ o=some (x,bs):=by
    cases hbl:blind E o with
    | true=>exact Vf hbl X
    | false=>exact D4 G.sim (hloc hbl) O X
   have hfree : ∀k,S { (⟨dep,d,(sts i).hp.gen dep d,0⟩:Ref)with k:=k}=none:=by
    intro k
    cases hqk:S { (⟨dep,d,(sts i).hp.gen dep d,0⟩:Ref)with k:=k} with
    | none=>rfl
    | some l=>
     exfalso
     rcases G.hand _ (by rw[hqk];simp)with h | ⟨j,h1,h2,h3,h4⟩
     ·simp only at h
      rcases fe i c with J | J
      ·have:=G.cut i o J ho (by omega)
       rw[hi]at this;cases this
      ·have:=sd hL hrun hbf J (iB C) dep d
       omega
     ·have A:=jS h1
      have h5:=h4.1;have h6:=h4.2
      simp only at h5 h6
      rcases Dw j i with B | B | B
      ·have:=sd hL hrun hbf (show j+1<=i from B) (iB C) dep d
       omega
      ·subst B;rw[hi]at h2;cases h2
      ·have W:=Aq hL hrun hbf A h4
       have hc4:cls E ops[j]=3\/cls E ops[j]=4:=by have:=D9 E ops[j];omega
       rcases hc4 with hc3 | hc4
       ·
        obtain⟨dj,hdj⟩:=gH.1 (hL.made j _ A hc3)
        have hstepj:=hrun j _ A
        have N:d≠dj:=by
         intro e
         have:=hL.distinct i j o ops[j] d ho A hd (by rw[hdj,e])
         omega
        rcases oo hstepj with ⟨_,_,_,he2⟩ | ⟨_,_,bs2,_,_,_,he2⟩ | hwk2
        ·rw[he2]at h6;dsimp only at h6;omega
        ·rw[he2]at h6
         simp only[hdj,fQ]at h6
         rw[ai.kX,if_neg (by intro hcc;exact N hcc.2.1)]at h6
         omega
        ·rw[(A5 hc3).2]at hwk2;cases hwk2
       ·cases hha:oH E o ops[j] with
        | true=>
         have N:=OV (E:=E) (xn.1 hha).1 X
         have hmk:makes sts i { (⟨dep,d,(sts i).hp.gen dep d,0⟩:Ref)with k:=k}:=⟨bD _,by
          simp only
          rw[hhp,ai.kX,if_pos ⟨rfl,rfl,N⟩]
          exact qJ _⟩
         have:=DT hL hrun hbf h1 C h4 hmk
         omega
        | false=>
         have:=(tj hL hc ho hi hed (by omega) A (.inr (by omega)) ⟨hha,oG (by omega)⟩ (.inr (.inl hc4))).1 h2
         omega
   exact maker (by omega) hhp hx hq' hfree
  ·rw[hwk]at hwk';cases hwk'
 ·
  have hb4:blind E o=false:=by unfold blind;rw[T];rfl
  cases hat:((Hl o.op).isSome&&o.dst.isSome) with
  | true=>
   rw[kW O hw1]
   simp only[if_true]
   obtain⟨hat1,hat2⟩:=xn.1 hat
   obtain⟨t,ht⟩:=gH.1 hat1
   obtain⟨d,hd⟩:=gH.1 hat2
   have hloc:Dn S (sts i).hp.get g1:=by
    intro q b hg N
    rw[<-hg]
    refine G.Nf (iB C) λj U hT=>?_
    have A:=jS U
    rcases Gg hL hrun hbf hS0 hD0 hsf A hT with hm | ⟨W,_⟩
    ·exact CR hL hrun hbf hS0 hD0 G C hi (by rw[hg];simp) N U hm
    ·exact tj hL hc ho hi hed (by omega) A (.inl hb4) ⟨oG (by omega),oG (by omega)⟩ (by omega)
   rcases QE ht hwt step with ⟨x,bs,tm',X,hx,he⟩ | ⟨c',y,z,x,V,hcal,hargs,hA,hy,hx⟩
   ·rw[hd,fQ]at X he
    have hx2:dn nt (sts i).tm o.dst x=some (sts (i+1)).tm:=by rw[he];exact hx
    have hhp:(sts (i+1)).hp=keyed ⟨dep,d,(sts i).hp.gen dep d,0⟩ 0 bs (sts i).hp:=by rw[he]
    rw[<-tw hag]at X
    refine maker (by omega) hhp hx2 (D4 G.sim hloc O X) λk=>?_
    cases hqk:S { (⟨dep,d,(sts i).hp.gen dep d,0⟩:Ref)with k:=k} with
    | none=>rfl
    | some l=>
     exfalso
     rcases G.hand _ (by rw[hqk];simp)with h | ⟨j,h1,h2,h3,h4⟩
     ·simp only at h
      rcases fe i c with J | J
      ·have:=G.cut i o J ho (by omega)
       rw[hi]at this;cases this
      ·have:=sd hL hrun hbf J (iB C) dep d
       omega
     ·have A:=jS h1
      have h5:=h4.1;have h6:=h4.2
      simp only at h5 h6
      rcases Dw j i with B | B | B
      ·have:=sd hL hrun hbf (show j+1<=i from B) (iB C) dep d
       omega
      ·subst B;rw[hi]at h2;cases h2
      ·have W:=Aq hL hrun hbf A h4
       have hc4:cls E ops[j]=3\/cls E ops[j]=4:=by have:=D9 E ops[j];omega
       rcases hc4 with hc3 | hc4
       ·obtain⟨dj,hdj⟩:=gH.1 (hL.made j _ A hc3)
        have hstepj:=hrun j _ A
        have N:d≠dj:=by
         intro e
         have:=hL.distinct i j o ops[j] d ho A hd (by rw[hdj,e])
         omega
        rcases oo hstepj with ⟨_,_,_,he2⟩ | ⟨_,_,bs2,_,_,_,he2⟩ | hwk2
        ·rw[he2]at h6;dsimp only at h6;omega
        ·rw[he2]at h6
         simp only[hdj,fQ]at h6
         rw[ai.kX,if_neg (by intro hcc;exact N hcc.2.1)]at h6
         omega
        ·rw[(A5 hc3).2]at hwk2;cases hwk2
       ·have:=(tj hL hc ho hi hed (by omega) A (.inr (by omega)) ⟨oG (by omega),oG (by omega)⟩ (.inr (.inl hc4))).1 h2
        omega
   ·
    have hmapM:c'.args.toList.mapM (aM tm1)=some [y,z]:=by
     rw[<-hargs]
     refine mapM_congr λa ha=>hag a ?_
     rw[V]
     have:a∈c'.args:=by simpa using ha
     simp[Op.operands,Call.operands,this]
    have hvs:=m9 O hmapM
    obtain⟨u,v,hu1⟩:=zS hvs.1.symm
    rw[hu1]at hvs
    have vy:=hvs.2 0 y u rfl rfl
    have vz:=hvs.2 1 z v rfl rfl
    have hnew0 : ∀r',ju y=some r'->(sts i).hp.get r'≠none->makes sts i ⟨r'.d,r'.t,(sts i).hp.gen r'.d r'.t,0⟩:=by
     intro r' Y N
     obtain⟨r2,b2,z2,es2,f2,e1,e2,e3,e4⟩:=Bl hA
     rw[Y]at e1;cases e1
     refine⟨bD _,?_⟩
     simp only
     rw[e4,KJ (by rw[e2];rfl),if_pos ⟨rfl,rfl⟩]
     exact qJ _
    have hrefs : ∀r',ju y=some r'->S r'≠none:=by
     intro r' Y
     revert vy Y
     generalize y=v
     intro vy Y
     cases vy with
     | ptr hr hzl=>cases Y;rw[hr];simp
     | cC hr=>cases Y;rw[hr];simp
     | mp hr=>cases Y;rw[hr];simp
     | ch hr=>cases Y;rw[hr];simp
     | _=>cases Y
    obtain⟨r',b,k',e1,e2,hqr,e3,u',w',Z,Y,hv',hS',hF',hι'⟩:=K1 (P:=E.P) (ty:=o.type) (H:=(sts i).hp) G.sim vy vz (λr' Y N=>by
     cases hb:(sts i).hp.get r' with
     | none=>exact absurd hb N
     | some b=>exact hloc r' b hb (hrefs r' Y)) (λe p hp=>IV hloc vz hp) (λr' Y N=>by
     cases hqk:S ⟨r'.d,r'.t,(sts i).hp.gen r'.d r'.t,0⟩ with
     | none=>rfl
     | some l=>
      exfalso
      rcases G.hand _ (by rw[hqk];simp)with h | ⟨j,h1,h2,h3,h4⟩
      ·simp only at h
       rcases fe i c with J | J
       ·have:=G.cut i o J ho (by omega)
        rw[hi]at this;cases this
       ·have:=sd hL hrun hbf J (iB C) r'.d r'.t
        omega
      ·have:=DT hL hrun hbf h1 C h4 (hnew0 r' Y N)
       subst this
       rw[hi]at h2;cases h2) hA
    have hmk:=hnew0 r' e1 (by rw[e2];simp)
    obtain⟨F,R⟩:=k6 (tm1:=tm1) hx
    have hok:eM E.P o a1 w1 λu2 w2=>u2=u'/\w2=w':=by
     refine eM.of_run ?_ ⟨rfl,rfl⟩
     have hsame:c'.args.map a1.eval = #[u,v]:=by
      apply Jt.1
      rw[Array.toList_map,hu1]
     simp only[execOp,V,resolve,hcal,invoke,Sem.run_bind,Sem.run_pure,Result.andThen_ok,hsame]
     show(do pure (Next.value (<-Builtin.append_ c'.argTypes o.type #[u,v])):Sem Next).run E.P w1=_
     exact IJ Y
    refine hok ro K Q λu2 w2 ⟨f1,f2⟩=>hK _ _ ?_
    subst f1;subst f2
    obtain⟨h5,h6⟩:=(O.mono hF'.mem hF'.map).put hnt R hv'
    refine⟨hc',(put_defers _ _ _).trans hds,M1,Z,F,_,c,tW hL.toRegB ho D hi hTS hx R,h5,h6,hS',G.fwd.trans hF',G.le,λj oj U A W=>(D j).2 (.inl (G.cut j oj U A W)),λq X=>?_,λq=>?_⟩
    ·by_cases hqq:q=⟨r'.d,r'.t,(sts i).hp.gen r'.d r'.t,0⟩
     ·refine .inr ⟨i,C,(D i).2 (.inr rfl),?_,by rw[hqq];exact hmk⟩
      rcases fe i c with J | J
      ·have:=G.cut i o J ho (by omega)
       rw[hi]at this;cases this
      ·exact J
     ·by_cases hq1:S q=none
      ·exact absurd (hι' q hq1 hqq) X
      ·rcases G.hand q hq1 with h | ⟨j,g1',g2,g3,g4⟩
       ·exact .inl h
       ·exact .inr ⟨j,g1',(D j).2 (.inl g2),g3,g4⟩
    ·have hat3:(sts (i+1)).hp.get q=ku (sj (sts i).hp.get r') ⟨r'.d,r'.t,(sts i).hp.gen r'.d r'.t,0⟩ k' q:=by rw[e3,get_append _ _ _ _ hqr]
     by_cases hqq:q=⟨r'.d,r'.t,(sts i).hp.gen r'.d r'.t,0⟩
     ·refine⟨i+1,C,by rw[hat3];unfold ku;rw[if_pos hqq,if_pos hqq],λj U hT=>?_⟩
      rw[D j]
      by_cases B:j=i
      ·subst B;simp
      ·have hturn:turns sts i q:=by
        intro e
        have h5:(sts i).hp.get q≠none:=by
         rw[<-e,hat3];unfold ku;rw[if_pos hqq];simp
        have:=N0 hL hrun hbf hS0 hD0 (iB C) q h5
        rw[hqq]at this
        exact absurd this (Bd _)
       have hnot : ¬j<i:=by
        intro hji'
        have hlive : ∀m,m<=i->(sts m).hp.get q≠none->False:=by
         intro m hm N
         have h6:=N0 hL hrun hbf hS0 hD0 (uA hm (iB C)) q N
         have h7:=sd hL hrun hbf hm (iB C) q.d q.t
         rw[hqq]at h6 h7
         simp only at h6 h7
         omega
        by_cases h8:(sts j).hp.get q=none
        ·exact hlive (j+1) hji' (λh9=>hT (by rw[h8,h9]))
        ·exact hlive j (iB hji') h8
       have:(L j=true↔j<i):=by
        obtain⟨n',k1,k2,k3⟩:=G.get q
        have h9:=k3 i C hturn
        rw[hi]at h9
        have h10:=k3 j U hT
        rw[h10]
        constructor
        ·intro h11
         have : ¬i<n':=λh=>by simpa using h9.2 h
         omega
        ·intro h11;exact absurd h11 hnot
       rw[this]
       constructor
       ·rintro(h | h)
        ·omega
        ·exact absurd h B
       ·intro h;left;omega
     ·by_cases hqr2:q=r'
      ·refine⟨i+1,C,by rw[hat3];unfold ku sj;rw[if_neg hqq,if_neg hqq,if_pos hqr2,if_pos hqr2],λj U hT=>?_⟩
       rw[D j]
       by_cases B:j=i
       ·subst B;simp
       ·have A:=jS U
        have:(L j=true↔j<i):=by
         rcases Gg hL hrun hbf hS0 hD0 hsf A hT with hm | ⟨W,_⟩
         ·exact CR hL hrun hbf hS0 hD0 G C hi (by rw[hqr2,e2];simp) (by rw[hqr2];exact hrefs r' e1) U hm
         ·exact tj hL hc ho hi hed (by omega) A (.inl hb4) ⟨oG (by omega),oG (by omega)⟩ (by omega)
        rw[this]
        constructor
        ·rintro(h | h)
         ·omega
         ·exact absurd h B
        ·intro h;left;omega
      ·obtain⟨n',k1,k2,k3⟩:=G.get q
       refine⟨n',k1,?_,λj U hT=>?_⟩
       ·unfold ku sj;rw[if_neg hqq,if_neg hqr2];exact k2
       ·have B:j≠i:=by
         intro e;subst e
         refine hT ?_
         rw[hat3];unfold ku sj;rw[if_neg hqq,if_neg hqr2]
        rw[<-k3 j U hT,D j]
        simp[B]
  | false=>
  have hha : ∀oj,oH E o oj=false/\oH E oj o=false:=λoj=>⟨oG (by omega),RO hat⟩
  have hall : ∀q j,j<ops.size->turns sts j q->(L j=true↔j<i):=by
   intro q j U hT
   have A:=jS U
   refine tj hL hc ho hi hed (by omega) A (.inl hb4) (hha _) ?_
   rcases Gg hL hrun hbf hS0 hD0 hsf A hT with hm | ⟨W,_⟩
   ·exact .inr (.inr ⟨T,Aq hL hrun hbf A hm⟩)
   ·omega
  have hg:g1=(sts i).hp.get:=funext λq=>G.Nf (iB C) (hall q)
  have hD:tB S (sts i).hp:=by
   intro q l X
   rcases G.hand q (by rw[X];simp)with h | ⟨j,h1,h2,h3,h4⟩
   ·rcases fe i c with J | J
    ·have:=G.cut i o J ho (by omega)
     rw[hi]at this;cases this
    ·exact El h (sd hL hrun hbf J (iB C) _ _)
   ·have A:=jS h1
    have B:=(tj hL hc ho hi hed (by omega) A (.inl hb4) (hha _) (.inr (.inr ⟨T,Aq hL hrun hbf A h4⟩))).1 h2
    exact El h4.2 (sd hL hrun hbf (show j+1<=i from B) (iB C) _ _)
  have hO:vH M1 S ⟨tm1,(sts i).hp⟩ nt a1 w1:=⟨by rw[<-hg];exact G.sim,hD,O,hnt⟩
  obtain⟨x,F,hx,R,hev⟩:=Jc hlook step
  refine D5 (E:=E) (Q:=Q) hO hpc htc (λh=>by cases h) (.inl rfl) hev λa' w' ⟨⟨M',Z,hO',hF'⟩,hd'⟩=>hK a' w' ⟨hc',hd'.trans hds,M',Z,F,(sts (i+1)).hp.get,i+1,tW hL.toRegB ho D hi hTS hx R,hO'.tr,hO'.nt,hO'.sim,?_,C,?_,?_,?_⟩
  ·have:=G.fwd
   rw[hg]at this
   exact this.trans hF'
  ·intro j oj U A W
   by_cases B:j=i
   ·exact(D j).2 (.inr B)
   ·exact(D j).2 (.inl ((tj hL hc ho hi hed (by omega) A (.inl hb4) (hha _) (.inr (.inr ⟨T,W⟩))).2 (by omega)))
  ·intro q X
   cases hqq:Z q with
   | none=>exact absurd hqq X
   | some l=>exact .inl (hO'.dom q l hqq)
  ·intro q
   refine⟨i+1,C,rfl,λj U hT=>?_⟩
   rw[D j]
   by_cases B:j=i
   ·subst B;simp
   ·rw[hall q j U hT]
    constructor
    ·rintro(h | h)
     ·omega
     ·exact absurd h B
    ·intro h;left;omega
omit hS0 hD0 hap hsf in
theorem Me{L:Nat->Bool}(d : ∀i,i<ops.size->L i=true){a p:Act}{D:World}(n:a.defers=ds)(G:Vw E nt ops sts M ι w ds L p D):kV M ι (sts 0) a w nt (sts ops.size) p D:=by
 obtain⟨O,B,F,g,tm1,J,c,x,z,A,k⟩:=G
 have u : ∀t,cY tm1 t=cY (sts ops.size).tm t:=by
  intro t
  obtain⟨v,I⟩:=x t
  obtain⟨K,y⟩:=JS hL.toRegB hrun ops.size (bD _) t
  by_cases e : ∃j,j<ops.size/\iQ ops j=some t
  ·obtain⟨j,b,f⟩:=e
   rw[v j b (d j b) f,K j b (by simpa using b) f]
  ·rw[I λj b _ f=>e ⟨j,b,f⟩,y λj b _ f=>e ⟨j,b,f⟩]
 have m:TR F g (sts ops.size).tm p:=⟨λt=>by rw[<-u];exact z.at_ t⟩
 have C:J=(sts ops.size).hp.get:=funext λq=>k.Nf (bD _) λj b _=>⟨λ_=>b,λ_=>d j b⟩
 refine⟨⟨F,g,⟨by rw[<-C];exact k.sim,?_,m,A⟩,by rw[<-C];exact k.fwd⟩,B.trans n.symm⟩
 intro q l N
 rcases k.hand q (by rw[N];simp)with h | ⟨j,v,_,_,y⟩
 ·exact El h (sd hL hrun hbf k.le (bD _) _ _)
 ·exact El y.2 (sd hL hrun hbf (show j+1<=ops.size from v) (bD _) _ _)
theorem W2(S : ∀f xs y,pc f xs=some y->kJ E.P f xs y)(N : ∀f xs H y H',tc f xs H=some (y,H')->qv E.P f xs H y H'){ro:Option Nat}{a0:Act}(u:a0.defers=ds){Q:Exit->Act->World->Prop}
 (X : ∀I w',kV M ι (sts 0) a0 w nt (sts ops.size) I w'->Q .normal I w') : ∀(b:Nat)(a:Array Bool)(D:Act)(F:World),a.size=ops.size ->
 (List.range ops.size).countP (λi => !a.getD i false)<=b->Vw E nt ops sts M ι w ds (λi=>a.getD i false) D F->wpAnyIn (FW ro) 0 E.P .any ops Q b a D F:=by
 have BV : ∀ {a:Array Bool},a.size=ops.size->Region.ready .any ops a=[] ->∀i,i<ops.size->a.getD i false=true:=by
  intro a k h i
  induction i using Nat.strongRecOn with | ind i T=>
  intro g
  cases B:a.getD i false with
  | true=>rfl
  | false=>
   exfalso
   have m:=jS g
   have V:a.getD i true=false:=by
    have:i<a.size:=by omega
    simpa [Array.getD,this] using B
   have:i∈Region.ready .any ops a:=by
    rw[mem_ready]
    refine⟨V,_,m,λe J Z=>?_⟩
    have A:e.on∈eI ops[i]:=by
     unfold eI
     exact r8.2 ⟨e,Fl.2 ⟨by simpa using J,Z⟩,rfl⟩
    have c:=hL.edges i _ m _ A
    exact T e.on c (by omega)
   rw[h]at this
   cases this
 intro b
 induction b with
 | zero=>
  intro a D F k hf C
  have l : ∀i,i<ops.size->a.getD i false=true:=by
   intro i g
   cases B:a.getD i false with
   | true=>rfl
   | false=>
    exfalso
    have:0<(List.range ops.size).countP (λi => !a.getD i false):=List.countP_pos_iff.2 ⟨i,xl.2 g,by rw[B];rfl⟩
    omega
  refine⟨?_,X _ _ (Me hL hrun hbf l u C)⟩
  refine Sv.2 λi g=>?_
  rw[mem_ready]at g
  obtain⟨x,o,m,_⟩:=g
  have c:i<ops.size:=(ij.1 m).1
  have G:=l i c
  have:i<a.size:=by omega
  simp[Array.getD,this]at x G
  rw[G]at x
  cases x
 | succ b T=>
  intro a D F k hf C
  refine⟨λY=>X _ _ (Me hL hrun hbf (BV k Y) u C),λi g=>?_⟩
  rw[mem_ready]at g
  obtain⟨x,o,m,W⟩:=g
  have c:i<ops.size:=(ij.1 m).1
  have z:i<a.size:=by omega
  have v:a.getD i false=false:=by simpa [Array.getD,z] using x
  have t : ∀e∈eI o,(λi=>a.getD i false) e=true:=by
   intro e J
   unfold eI at J
   obtain⟨d,hd,rfl⟩:=r8.1 J
   obtain⟨G,h2⟩:=Fl.1 hd
   exact W d (by simpa using G) h2
  have n : ∀j,(λj=>(a.setIfInBounds i true).getD j false) j=true↔((λj=>a.getD j false) j=true\/j=i):=by
   intro j
   simp only
   by_cases q:j=i
   ·subst q
    simp[z]
   ·rw[getD_set_ne false (sA q)]
    simp[q]
  have:=RF (E:=E) (tc:=tc) (ro:=ro) (K:=wpAnyIn (FW ro) 0 E.P .any ops Q b (a.setIfInBounds i true)) (Q:=Q) hL hrun hbf hS0 hD0 hap hsf S N (L:=λi=>a.getD i false) m v t n C λI w' O=>by
   refine T _ I w' (by simp[k]) ?_ O
   have:=EG (p:=λj => !a.getD j false) (p':=λj => !(a.setIfInBounds i true).getD j false) (i:=i) (λj R=>by
    simp only[dQ]at R ⊢
    cases B:a.getD j false with
    | false=>rfl
    | true=>have:=(n j).2 (.inl B);simp only at this;rw[this]at R;cases R) (by simp only[v,BI]) (by have:=(n i).2 (.inr rfl);simp only at this ⊢;rw[this];rfl) (List.range ops.size) (xl.2 c)
   omega
  unfold wpOpIn
  rw[m]
  simp only
  split
  ·rename_i U
   rw[if_pos U]at this
   exact this
  ·rename_i U
   rw[if_neg U]at this
   exact⟨λ_ _=>trivial,this⟩
end
theorem U5{E:Env}(D:E.P.follows .mixedOrders=true){ops:Array Oper}(c:UA E ops=true){pc:FuncId->List AV->Option AV}(v : ∀f xs y,pc f xs=some y->kJ E.P f xs y)
 {tc:xd->List AV->ai->dv} (n : ∀f xs H y H',tc f xs H=some (y,H')->qv E.P f xs H y H') {nt dep id:Nat} {st b:St} {M:Mem} {ι:Map} {a:Act} {w:World} {ro:Option Nat} {Q:Exit->Act->World->Prop}
 (h:ng E pc tc nt dep true ops ops.toList st=some b) (hap:sT E ops b=true) (e:vH M ι st nt a w) (F : ∀A w',kV M ι st a w nt b A w'->Q .normal A w'):(Code.region id ops true).wpIn (FW ro) 0 E.P Q a w:=by
 obtain⟨sts,B,z,C⟩:=Gv ops.toList st b h
 rw[Ca]at z
 have hL:=WZ c
 have hrun : ∀i o,ops[i]?=some o->evalOp E pc tc nt dep true ops o (sts i)=some (sts (i+1)):=λi o I=>C i o (by simpa using I)
 subst B
 subst z
 have u:(rB E ops).isEmpty=false:=by
  unfold UA at c
  rw[aZ]at c
  simpa using c.1
 unfold sT at hap
 rw[u,Ds,aZ,aZ]at hap
 refine wpIn_region_any D ?_
 have x:tA M ι (sts 0).hp.get w M ι (sts 0).hp.get { w with drawn:=w.drawn+1} :=
  ⟨rfl,rfl,rfl,bD _,λ_ _ _=>rfl,λ_ _ _ h=>h,λ_ _ h=>h,λr k l h G => .inr ⟨r,k,l,h,G,rfl⟩,λ_ _ _ h => .inl h⟩
 have d : ∀i,(Array.replicate ops.size false).getD i false=false:=by
  intro i
  simp only[Bh,JE]
  split<;>rfl
 refine W2 (tc:=tc) (M:=M) (ι:=ι) (w:=w) (a0:=a) hL hrun hap.2.2 e.sim e.dom hap.1 hap.2.1 v n rfl F ops.size _ a _ (by simp) ?_ ?_
 ·exact uA List.countP_le_length (by simp)
 ·refine⟨λi o p=>?_,rfl,M,ι,(sts 0).tm,(sts 0).hp.get,0,?_,e.tr,e.nt,e.sim.drew rfl,x,Dq _,λj o g=>absurd g (Nat.not_lt_zero _),λq J=>?_,λq=>⟨0,Dq _,rfl,λj _ _=>⟨λg=>?_,λg=>absurd g (Nat.not_lt_zero _)⟩⟩⟩
  ·exact absurd ((d i).symm.trans p) (by simp)
  ·exact λt=>⟨λi _ p=>absurd ((d i).symm.trans p) (by simp),λ_=>rfl⟩
  ·cases m:ι q with
   | none=>exact absurd m J
   | some l=>exact .inl (e.dom q l m)
  ·exact absurd ((d j).symm.trans g) (by simp)
end Go.Ab
namespace Go.Ab
open Go.ChangeShapes Go.WideShapes Go.RowKit
structure Kept (W W':World):Prop where
 os:W'.os=W.os
 output:W'.output=W.output
 size:W.heap.size<=W'.heap.size
 old : ∀b,b<W.heap.size->W'.heap[b]?=W.heap[b]?
theorem Kept.keptBut{W b:World}(h:Kept W b)(a:MemPlace->Prop):W.keptBut b a:=by
 refine⟨h.os,h.output,λi c=>?_⟩
 rw[h.old i c]
 have:=jS c
 rw[this]
 cases W.heap[i]<;>simp
theorem Kept.frozen{W b:World}(h:Kept W b){a:Addr}(c:a.block<W.heap.size):b.frozen? a=W.frozen? a:=by
 unfold World.frozen?
 rw[h.old _ c]
theorem Kept.same{W a:World}(h:Kept W a){p:MemPlace}(hp:p.block<W.heap.size):W.sameAt a p:=by
 cases p with
 | cell b off=>exact World.cell?_of_block (h.old b hp)
 | map b=>exact h.old b hp
section
variable{H:Type}{enc:TypeId × Value->H}{P:Program}
theorem JT{T:TypeId->Prop}(K:Kids P T)(y : ∀t e,T t->P.underlying t=some (.slice e)->0<P.cellsOf e){W m:World}(C:Kept W m){u:Nat->Bool}{a:Nat} : ∀ {b:List TypeId} {c:List Value} {ds:List (DataW H)} {ps:List MemPlace},(∀t∈b,T t) ->
 DataW.TrodAll enc P W a (λ_=>true) true b c ds ps->(∀p∈ps,u p.block=true)->DataW.TrodAll enc P m a u true b c ds ps:=by
 intro b c ds ps k h g
 have j:=h.respare K y k g
 have l:=h.lt
 clear h g k
 induction b generalizing c ds ps with
 | nil=>
  obtain⟨rfl,rfl,rfl⟩:=trodAll_nil j
  exact trodAll_mk0
 | cons t b B=>
  obtain⟨v,A,d,F,p,q,rfl,rfl,rfl,⟨n,D⟩,z⟩:=trodAll_cons j
  refine⟨p,q,⟨n,DataW.trod_carry n t _ _ D λx f=>C.same (l x (NH _ f))⟩,B z λx f=>l x (List.mem_append_right _ f),rfl⟩
theorem Rq{T:TypeId->Prop}(K:Kids P T)(S : ∀t e,T t->P.underlying t=some (.slice e)->0<P.cellsOf e){f:Func}{s:ChangeSpec}{apart fresh a l:Bool}{W z:World}{args:Array Value}{ds V:List (DataW H)}{d:List MemPlace}
 (X : ∀t∈f.params.toList,T t) (F:s.vars=[]) (L:DataW.Whole enc P f.params.toList s.vars apart W args.toList ds V d) (R:s.fn H ds = { results:=[.lit (.bool true)],args:=ds})
 {Q:TypeId} (G:f.resultTypes = #[Q]) (I:P.underlying Q=some .bool) (C:Kept W z):s.post enc P f apart fresh a l W args (.bool true) z:=by
 have A:=L
 obtain⟨p,q,O,N,rfl,y,n⟩:=A
 rw[F]at N
 obtain⟨rfl,rfl⟩:=trodVars_none N
 have u:=O.lt
 have k:s.fn H (ds++[]) = { results:=[.lit (.bool true)],args:=ds}:=by rw[sV];exact R
 have h : ∀(b:Nat)(g:Nat->Bool)(J:Bool),DataW.TrodAll enc P z b g J f.resultTypes.toList ((Value.bool true).resultList f.resultTypes.size) (s.fn H (ds++[])).results []:=by
  intro b g J
  rw[G,k]
  exact trodAll_mk1 (shut_bool I true)
 have c : ∀g:Nat->Bool,(∀x∈p,g x.block=true)->DataW.TrodAll enc P z 0 g true f.params.toList args.toList (s.fn H (ds++[])).args p:=by
  intro g B
  rw[k]
  exact JT K S C X O B
 have m : ∀g:Nat->Bool,DataW.TrodVars enc P z g s.vars (s.fn H (ds++[])).vars []:=by
  intro g
  rw[F,k]
  rfl
 rw[sV]at n y
 refine⟨ds,[],p++[],[],p,[],L,h _ _ _,c _ (λx D=>by simpa using u x D),m _,C.keptBut _,λ_=>?_⟩
 have j:=trodAll_append (c (λ_=>true) (λ_ _=>rfl)) (h 0 (λ_=>true) true)
 rw[sV]at j
 refine⟨ok_one G rfl (okWide_bool_mk I true),_,[],p++[],⟨p,[],j,(by rw[F];rfl),rfl,?_,?_⟩,λx D _=>D⟩
 ·intro b v hp
  rw[sV]at hp
  rw[C.frozen (show(⟨b,v,none⟩:Addr).block<W.heap.size from u _ hp)]
  exact y b v hp
 ·intro U
  rw[sV]
  exact n U
end
theorem Pa{E:Env}{ok:Array Oper->Bool}(g:E.Ok ok){n:Nat}{f:FuncId}{xs:List AV}(h:dq E (cp E n) f xs=some (.v (.bool true))){W:World}{us:List Value}
 (j:lR (λb o=>W.cell? ⟨b,o,none⟩) ei xs us):Calls E.P f us.toArray W λe d=>e = .returned (.bool true)/\Kept W d:=by
 refine((XA g h).2 _ W us (λ_ _ _ h=>h) j).mono λe d ⟨v,M',he,hend⟩=>?_
 obtain⟨ls,k,c,_⟩:=hend.res ⟨0,0,0,0⟩
 have a:aE ⟨0,0,0,0⟩ depth (.v (.bool true)) []=(.v (.bool true),[]):=wj _ depth 1 _ _ rfl
 rw[a]at c
 cases c
 exact⟨he,hend.os,hend.output,hend.size,hend.old⟩
def US(E:Env)(l:List FuncId):Bool:=l.all λf=>match E.P.funcs[f]? with
 | some fn => !(fn.name == "runtime.NumGoroutine")&&(match fn.body with | some c=>codeOk (D7 E) c | none=>true)
 | none=>false
def afe(ops:Array Oper)(i:Nat):Nat:=match ops[i]? with
 | some o=>(match o.dst with | some d=>d | none=>0)
 | none=>0
def Cq:List (Nat × Nat × Nat × List (Tmp × Tmp))->Array Oper->List (Tmp × Tmp)
 | [],_=>[]
 | (a,b,c,l) :: d,ops=>cond (Nat.beq b ops.size) (cond (Nat.beq a (afe ops 0)) (cond (Nat.beq c (afe ops (b - 1))) l (Cq d ops)) (Cq d ops)) (Cq d ops)
def QC(e:List (Nat × Nat × Nat))(o:Oper):Bool:=match o.op with
 | .call c=>(match c.callee with
  | .builtin .append=>(match o.dst,c.args.toList with
   | some d,[.tmp a,.tmp b]=>e.any λ(x,y,z)=>Nat.beq x d&&Nat.beq y a&&Nat.beq z b
   | _,_=>false)
  | .value (.tmp t)=>(match o.dst with
   | some d=>e.any λ(x,y,z)=>Nat.beq x d&&Nat.beq y t&&Nat.beq z 66666
   | none=>false)
  | .builtin .len=>(match o.dst with
   | some d=>e.any λ(x,y,z)=>Nat.beq x d&&Nat.beq y 0&&Nat.beq z 55555
   | none=>false)
  | _=>false)
 | .buildSlice _ n _=>(match o.dst with
  | some d=>e.any λ(x,y,z)=>Nat.beq x d&&Nat.beq y n&&Nat.beq z 77777
  | none=>false)
 | _=>false
def Up:Option Operand->Bool
 | some (.const (.slice none 0 0))=>true
 | _=>false
def ZV(o:Oper):Bool:=match o.op with
 | .call c=>(match c.callee with
  | .builtin .append=>Up c.args[0]?
  | _=>false)
 | _=>false
def Ze(a:List (Nat × Nat × Nat))(o:Oper):Bool:=match o.op with
 | .buildSlice _ n _=>(match o.dst with
  | some d=>a.any λ(x,y,z)=>Nat.beq x d&&Nat.beq y n&&Nat.beq z 88888
  | none=>false)
 | .call c=>(match o.dst with
  | some d=>a.any λ(x,y,z)=>Nat.beq x d&&((Nat.beq y 0&&Nat.beq z 88888)||(Nat.beq z 88889&&(match c.callee with
   | .value (.func g)=>Nat.beq g y
   | _=>false)))
  | none=>false)
 | _=>false
def SU(a:List (Nat × Nat × Nat))(o:Oper):Bool:=ZV o||QC a o
def Xs(P:Program)(l cz lT:List FuncId)(strict:Oper->Bool)(apart:Array Oper->List (Tmp × Tmp))(k8:Oper->Bool:=λ_=>false):Env := { k8:=k8,P:=P,strict:=strict,apart:=apart,mode:=λf=>if cz.contains f then (if lT.contains f then 3 else 1) else if lT.contains f then 2 else 0,allowed:=λf=>l.contains f,spec:=λ_ _=>none}
def G8(P:Program)(l cz lT:List FuncId)(strict:Oper->Bool:=λ_=>false)(apart:Array Oper->List (Tmp × Tmp):=λ_=>[])(k8:Oper->Bool:=λ_=>false)(L9:List (FuncId × List AV × AV):=[])(wide:Oper->Bool:=λ_=>false)(tZ:FuncId->Option TypeId:=λ_=>none)(thrSpec:FuncId->List AV->ai->Option (AV × ai):=λ_ _ _=>none)(sm:Nk:=Uo):Env:=
 {k8:=k8,P:=P,strict:=strict,apart:=apart,mode:=λf=>if cz.contains f then (if lT.contains f then 3 else 1) else if lT.contains f then 2 else 0,allowed:=λf=>l.contains f,spec:=Kh L9,ok:=D7 (Xs P l cz lT strict apart k8),wide:=wide,tZ:=tZ,thrSpec:=thrSpec,sm:=sm}
noncomputable def GZ:Nk:=⟨λH H' => @decide (∀q k,H.get q=some k->H'.get q=some k) (Classical.propDecidable _),λH H' h => @of_decide_eq_true _ (Classical.propDecidable _) h⟩
theorem Mx{H H':ai}(h : ∀q k,H.get q=some k->H'.get q=some k):GZ.f H H'=true := @decide_eq_true _ (Classical.propDecidable _) h
theorem Vj : ∀(n:Nat)(x y:AV),Jh n x y=true->x=y:=by
 intro n
 induction n with
 | zero=>intro x y h;simp[Jh]at h
 | succ n a=>
  intro x y h
  unfold Jh at h
  split at h
  ·rw[K2 h]
  ·simp only[aZ]at h
   rw[rC a _ _ (kf h.1) h.2]
  ·simp only[aZ,decide_eq_true_eq]at h
   rw[rC a _ _ (kf h.1.2) h.2,kf h.1.1.1,h.1.1.2]
  ·cases h
theorem Uy{xs ys:List AV}(h:Uz xs ys=true):xs=ys:=by
 unfold Uz at h
 simp only[aZ]at h
 exact rC (Vj 8) _ _ (kf h.1) h.2
theorem WY{P:Program}{T:List (FuncId × List AV × AV)}(b : ∀p∈T,kJ P p.1 p.2.1 p.2.2){f:FuncId}{args:List AV}{y:AV}(h:Kh T f args=some y):kJ P f args y:=by
 induction T with
 | nil=>cases h
 | cons p T c=>
  obtain⟨g,xs,z⟩:=p
  unfold Kh at h
  split at h
  ·rename_i a
   simp only[aZ]at a
   cases h
   have:=b _ (gG ..)
   simp only at this
   rw[<-kf a.1,<-Uy a.2]
   exact this
  ·exact c (λp hp=>b p (fW _ hp)) h
theorem Qi{P:Program}{l cz lT:List FuncId}{strict:Oper->Bool}{apart:Array Oper->List (Tmp × Tmp)}{k8:Oper->Bool}{L9:List (FuncId × List AV × AV)}{wide:Oper->Bool}{tZ:FuncId->Option TypeId}{thrSpec:FuncId->List AV->ai->Option (AV × ai)}{sm:Nk}(hspec : ∀p∈L9,kJ P p.1 p.2.1 p.2.2)(hm:P.follows .mixedOrders=true)(h0:US (G8 P l cz lT strict apart k8) l=true)(hover : ∀f t,tZ f=some t->BZ P f t)(hthr : ∀f args H y H',thrSpec f args H=some (y,H')->qv P (.fn f) args H y H') :
 (G8 P l cz lT strict apart k8 L9 wide tZ thrSpec sm).Ok (D7 (G8 P l cz lT strict apart k8 L9 wide tZ thrSpec sm)) where
 fns:=by
  intro f hf
  have h:US (G8 P l cz lT strict apart k8 L9) l=true:=h0
  have hf':f∈l:=by simpa [G8] using hf
  have:=fZ.1 h f hf'
  split at this
  ·rename_i fn hfn
   simp only[aZ,dQ]at this
   refine⟨fn,hfn,this.1,λc hc=>?_⟩
   have h2:=this.2
   rw[hc]at h2
   exact h2
  ·cases this
 specs:=λf args y h=>WY hspec h
 same:=rfl
 overs:=hover
 thrs:=hthr
 draws:=λops hok _ hpc _ htc nt dep id st st' M ι a w ro Q hr hap hO hQ=>by
  rcases Jz.1 hok with h1 | h1
  ·exact U4 hm h1 hpc htc hr hO hQ
  ·exact U5 hm h1 hpc htc hr hap hO hQ
theorem L8{P:Program} : ∀p∈([]:List (FuncId × List AV × AV)),kJ P p.1 p.2.1 p.2.2:=λp hp=>by simp at hp
def KD(P:Program)(f:Func):Bool:=match f.resultTypes.toList with
 | [t]=>(match P.underlying t with | some .bool=>true | _=>false)
 | _=>false
theorem Pd{P:Program}{f:Func}(h:KD P f=true) : ∃a,f.resultTypes = #[a]/\P.underlying a=some .bool:=by
 unfold KD at h
 split at h
 ·rename_i t b
  split at h
  ·rename_i c
   exact⟨t,by rw[<-Jt,b],c⟩
  ·cases h
 ·cases h
end Go.Ab
