/-
  Regions where stores, and what looks at memory at one place, come in any order. No statement of a seat is proved here.
-/
import Derived.ReadAgain
import Derived.OpenShut
import Derived.ChangeSame
import Derived.RowKit
import Derived.JoinedOf
import Derived.Test.YtjampffmlnplcaaAbsDrawn
set_option linter.unusedVariables false
set_option linter.unusedSimpArgs false
set_option linter.unusedSectionVars false
set_option linter.unnecessarySimpa false
namespace Go.Ab
section
structure HL (E:Env) (ops:Array Oper):Prop extends RegB ops where
 made : ∀(i:Nat)(o:Oper),ops[i]?=some o->cls E o=3->o.dst.isSome=true
 stay : ∀(i:Nat)(o:Oper),ops[i]?=some o->cls E o≠0->cls E o≠3->iF E o=false ->∃t,fW E o=some t /\∀k,dQ ops k=some t->k<i
 must : ∀(i j:Nat)(oi oj:Oper),ops[i]?=some oi->ops[j]?=some oj->j<i->iM E oi oj=true->((bF ops.toList []).getD i 0).testBit j=true
 meet : ∀(i j:Nat)(oi oj:Oper),ops[i]?=some oi->ops[j]?=some oj->j<i->px (cls E oi) (cls E oj)=true->iF E oi=false->iF E oj=false->((bF ops.toList []).getD i 0).testBit j=true\/settled E ops oi oj=true
theorem qe(E:Env)(o:Oper):cls E o<=4:=by unfold cls;(repeat' split)<;>omega
theorem E7{E:Env}{ops:Array Oper}(h:Dc E ops=true):HL E ops:=by
 unfold Dc at h
 rw[bR]at h
 replace h:=h.2
 simp only[dh,lT]at h
 have one : ∀(i:Nat)(o:Oper),ops[i]?=some o->(cw o).all (· < i)=true/\Ao E ops i o=true /\∀(j:Nat)(a:Oper),j<i->ops[j]?=some a->zi E ops (bF ops.toList []) o a i j=true:=by
  intro i o f
  have d:i<ops.size:=(dz.1 f).1
  have:=h i d
  rw[f]at this
  simp only[bR,dh,lT]at this
  refine⟨by simpa using this.1.1,this.1.2,λj a e p=>?_⟩
  have u:=this.2 j e
  rw[p]at u
  exact u
 have c : ∀(i j:Nat)(oi a:Oper),ops[i]?=some oi->ops[j]?=some a->j<i->mv ops (bF ops.toList []) oi a i j=true /\
  (!iM E oi a||((bF ops.toList []).getD i 0).testBit j)=true/\(!px (cls E oi) (cls E a)||iF E oi||iF E a||((bF ops.toList []).getD i 0).testBit j||settled E ops oi a)=true:=by
  intro i j oi a d e b
  have:=(one i oi d).2.2 j a b e
  unfold zi at this
  rw[bR,bR]at this
  exact⟨this.1.1,this.1.2,this.2⟩
 refine⟨AN (λi o f=>(one i o f).1) λi j oi a d e b=>(c i j oi a d e b).1,?_,?_,?_,?_⟩
 ·intro i o f J
  have:=(one i o f).2.1
  unfold Ao at this
  rw[J]at this
  exact this
 ·intro i o f y z n
  have:=(one i o f).2.1
  unfold Ao at this
  have g:yT ops i (fW E o)=true:=by
   split at this
   ·exact absurd (by assumption) y
   ·exact absurd (by assumption) z
   ·rw[n,Bool.false_or]at this;exact this
  unfold yT at g
  split at g
  ·rename_i t v
   refine⟨t,v,λk l=>?_⟩
   simp only[dh,lT]at g
   have q:k<ops.size:=by
    unfold dQ at l
    cases s:ops[k]? with
    | none=>rw[s]at l;cases l
    | some x=>exact(dz.1 s).1
   have:=g k q
   rw[l]at this
   simpa using this
  ·cases g
 ·intro i j oi a d e b m
  have:=(c i j oi a d e b).2.1
  rw[m]at this
  simpa using this
 ·intro i j oi a d e b m r1 r2
  have:=(c i j oi a d e b).2.2
  rw[m,r1,r2]at this
  simpa using this
def Made(H H':aa)(q:Ref):Prop:=H.gen q.d q.t<=q.g/\q.g<H'.gen q.d q.t
structure my (H H':aa):Prop where
 gen : ∀d t,H.gen d t<=H'.gen d t
 born : ∀q,H'.get q≠none->H.get q≠none\/Made H H' q
 arr : ∀q b b',H.get q=some b->q.g<H.gen q.d q.t->H'.get q=some b'->b'.arr=b.arr
theorem my.refl(H:aa):my H H:=⟨λ_ _=>a7 _,λ_ h => .inl h,λq b c h _ a=>by rw[h]at a;cases a;rfl⟩
theorem my.keyed(H:aa)(d t:Nat)(m:List ax):my H (keyed ⟨d,t,H.gen d t,0⟩ 0 m H):=by
 refine⟨λp t'=>?_,λq h=>?_,λq b n h l a=>?_⟩
 ·rw[aa.fM];split
  ·rename_i c;obtain⟨rfl,rfl,_⟩:=c;exact oN _
  ·exact a7 _
 ·rw[aa.fZ]at h
  unfold jJ at h
  split at h
  ·rename_i c
   obtain⟨f,g,j,k⟩:=c
   refine .inr ⟨?_,?_⟩
   ·rw[f,g,j];exact a7 _
   ·rw[aa.fM,if_pos ⟨f,g,by intro e;rw[e]at k;simp at k⟩,j];exact iT _
  ·exact .inl h
 ·rw[aa.fZ]at a
  unfold jJ at a
  split at a
  ·rename_i c
   obtain⟨f,g,j,k⟩:=c
   rw[f,g,j]at l
   exact absurd l (od _)
  ·rw[h]at a;cases a;rfl
theorem vM{g:bD}{R:List Ref}{q:Ref}{b c:ax}(h:g q=some b)(a:j7 g R q=some c):c.arr=b.arr:=by
 unfold j7 at a
 split at a
 ·rw[h]at a;simp at a;rw[<-a]
 ·rw[h]at a;cases a;rfl
theorem sT{g:bD}{R:List Ref}{q:Ref}:j7 g R q≠none->g q≠none:=by
 unfold j7
 split
 ·intro h e;rw[e]at h;exact h rfl
 ·exact id
theorem my.put{H:aa}{R:List Ref}{r:Ref}{b:ax}{es:List AV}(c:(aT H R).get r=some b):my H ((aT H R).put r (some { b with es})):=by
 refine⟨λd t=>?_,λq h=>?_,λq f j h g a=>?_⟩
 ·rw[aa.b8 _ _ _ (by rw[c];rfl),aa.dq];exact a7 _
 ·rw[aa.aj]at h
  split at h
  ·rename_i e;subst e;exact .inl (sT (R:=R) (by rw[<-aa.bu,c];simp))
  ·exact .inl (sT (R:=R) (by rw[<-aa.bu];exact h))
 ·rw[aa.aj]at a
  split at a
  ·rename_i e;subst e
   cases a
   rw[aa.bu]at c
   exact(vM h c:b.arr=f.arr)
  ·rw[aa.bu]at a
   exact vM h a
theorem wz{P:Program}{H H':aa}{t:TypeId}{a x:Option AV}{y:AV}(h:eB P H t a x=some (y,H')):my H H':=by
 unfold eB at h
 split at h
 ·split at h
  ·rename_i r' i j p n _ b e
   obtain⟨⟨k,l,m⟩,h⟩:=cc.1 h
   split at h
   ·split at h
    ·rename_i q g
     split at h
     ·cases h
     ·rename_i d
      obtain⟨f,h⟩:=cc.1 h
      simp only[aC]at h
      obtain⟨es',c,h⟩:=h
      cases h
      exact my.put (by rw[aa.bu];unfold j7;rw[if_neg d];exact e)
    ·cases h
   ·simp only[aC]at h
    obtain⟨es',c,h⟩:=h
    cases h
    exact my.put (R:=[]) e
  ·cases h
 ·cases h
theorem ov{P:Program}{H H':aa}{t t':Option TypeId}{s x y:AV}(h:fg P H t t' s x=some (y,H')) :
 ∃r b z es f,fG s=some r/\H.get r=some b/\b.arr=true/\H'=(⟨r.d,r.t,H.gen r.d r.t,0⟩,some ⟨z,es,true,f⟩) :: H.put r none:=by
 unfold fg at h
 split at h
 ·cases h
 ·split at h
  ·cases h
  ·split at h
   ·split at h
    ·cases h
    ·split at h
     ·split at h
      ·rename_i r' c len b e
       obtain⟨⟨_,a,_⟩,h⟩:=cc.1 h
       cases h
       exact⟨_,b,_,_,_,rfl,e,a,rfl⟩
      ·cases h
     ·cases h
   ·cases h
theorem wc{H:aa}{r:Ref}{o:Option ax}(q:Ref):aa.get ((⟨r.d,r.t,H.gen r.d r.t,0⟩,o) :: H.put r none) q=if (⟨r.d,r.t,H.gen r.d r.t,0⟩:Ref)=q then o else if q=r then none else H.get q:=by
 simp only[aa.get,aa.aj]
theorem we{H:aa}{r:Ref}{o:Option ax}(a:(H.get r).isSome=true)(d t:Nat):aa.gen ((⟨r.d,r.t,H.gen r.d r.t,0⟩,o) :: H.put r none) d t=if r.d=d/\r.t=t then H.gen d t+1 else H.gen d t:=by
 simp only[aa.gen]
 rw[aa.b8 _ _ _ a]
 split
 ·rename_i h;rw[h.1,h.2]
 ·rfl
theorem vg{P:Program}{H H':aa}{t t':Option TypeId}{s x y:AV}(h:fg P H t t' s x=some (y,H')):my H H' /\∃r,fG s=some r /\∀q,H'.get q≠H.get q->Made H H' q\/q=r:=by
 obtain⟨r,b,z,es,f,n,p,j,rfl⟩:=ov h
 have k:(H.get r).isSome=true:=by rw[p];rfl
 have a : ∀q,(⟨r.d,r.t,H.gen r.d r.t,0⟩:Ref)=q->Made H ((⟨r.d,r.t,H.gen r.d r.t,0⟩,some ⟨z,es,true,f⟩) :: H.put r none) q:=by
  intro q e
  subst e
  refine⟨a7 _,?_⟩
  rw[we k,if_pos ⟨rfl,rfl⟩]
  exact iT _
 refine⟨⟨λd t=>?_,λq c=>?_,λq v u m l g=>?_⟩,r,n,λq c=>?_⟩
 ·rw[we k];split<;>omega
 ·rw[wc]at c
  split at c
  ·rename_i e;exact .inr (a q e)
  ·split at c
   ·exact absurd rfl c
   ·exact .inl c
 ·rw[wc]at g
  split at g
  ·rename_i e
   subst e
   exact absurd l (od _)
  ·split at g
   ·cases g
   ·rw[m]at g;cases g;rfl
 ·rw[wc]at c
  split at c
  ·rename_i e;exact .inl (a q e)
  ·split at c
   ·rename_i e;exact .inr e
   ·exact absurd rfl c
def Seen(g a:bD)(v:AV):Prop :=∀q,fG v=some q->g q≠none->a q=g q
theorem lu{g c:bD}{v:AV}(h:Seen g c v){q:Ref}(d:fG v=some q){b:ax}(a:g q=some b):c q=some b:=by rw[h q d (by rw[a];simp),a]
theorem sq{P:Program}{g f:bD}{t:TypeId}{v x:AV}{e:List ax}(h:jU P g t (some v)=some (x,e))(k:Seen g f v):e=[]/\jU P f t (some v)=some (x,e):=by
 unfold jU at h ⊢
 cases v<;>(try (simp at h;done))
 ·rename_i r i j
  cases a:fw P t<;>cases d:ay P t<;>rw[a,d]at h<;>(try (simp at h;done))
  simp only at h ⊢
  cases c:g r with
  | none=>rw[c]at h;simp at h
  | some b=>
   rw[c]at h
   rw[lu k rfl c]
   exact⟨(iY h).2,h⟩
 ·cases a:fw P t<;>cases d:ay P t<;>rw[a,d]at h<;>(try (simp at h;done))
  exact⟨(iY h).2,h⟩
theorem m6{P:Program}{g m:bD}{t:TypeId}{v x:AV}{j:Option AV}{f:List ax}(h:bj P g t (some v) j=some (x,f))(l:Seen g m v):f=[]/\bj P m t (some v) j=some (x,f):=by
 unfold bj at h ⊢
 cases n:j.bind kT with
 | none=>rw[n]at h;simp at h
 | some k=>
 rw[n]at h
 simp only at h ⊢
 cases he:bg P t with
 | some e=>
  rw[he]at h
  simp only at h ⊢
  cases c:ay P e with
  | none=>rw[c]at h;cases v<;>simp at h
  | some z=>
  rw[c]at h
  cases v<;>(try (simp at h;done))
  ·simp only at h ⊢
   exact⟨by obtain⟨_,h⟩:=cc.1 h;cases h;rfl,h⟩
  ·rename_i r d len cap
   simp only at h ⊢
   cases a:g r with
   | none=>rw[a]at h;simp at h
   | some b=>
    rw[a]at h
    rw[lu l rfl a]
    exact⟨by obtain⟨_,h⟩:=cc.1 h;cases h;rfl,h⟩
  ·rename_i r d len cap
   simp only at h ⊢
   cases a:g r with
   | none=>rw[a]at h;simp at h
   | some b=>
    rw[a]at h
    rw[lu l rfl a]
    exact⟨by obtain⟨_,h⟩:=cc.1 h;cases h;rfl,h⟩
 | none=>
  rw[he]at h
  simp only at h ⊢
  refine⟨?_,h⟩
  cases q:n8 P t with
  | none=>rw[q]at h;simp at h
  | some p=>
  rw[q]at h
  cases c:ay P p.2 with
  | none=>simp only[c]at h;cases v<;>simp at h
  | some z=>
  simp only[c]at h
  cases v<;>(try (simp at h;done))
  ·obtain⟨_,h⟩:=cc.1 h;cases h;rfl
  ·obtain⟨_,h⟩:=cc.1 h;cases h;rfl
theorem qt{P:Program}{g q:bD}{t:TypeId}{v x:AV}{m k l:Option (Option Int)}{d:List ax}(h:dN P g t (some v) m k l=some (x,d))(n:Seen g q v):d=[]/\dN P q t (some v) m k l=some (x,d):=by
 have nil : ∀ {c:Prop} [Decidable c] {o:Option (Nat × Nat × Option Nat)} {f:Nat × Nat × Option Nat->AV × List ax},(∀p,(f p).2=[])->(if c then o.map f else none)=some (x,d)->d=[]:=by
  intro c _ o f s h
  obtain⟨_,h⟩:=cc.1 h
  obtain⟨p,_,h⟩:=aC.1 h
  have:=s p
  rw[h]at this
  exact this
 unfold dN at h ⊢
 cases m<;>cases k<;>cases l<;>(try (simp at h;done))
 simp only at h ⊢
 cases v<;>(try (simp at h;done))
 ·rename_i y
  cases y<;>(try (simp at h;done))
  ·simp only at h ⊢
   exact⟨nil (λ_=>rfl) h,h⟩
  ·split at h
   ·rename_i e
    simp only[cz,AV.v.injEq,Value.slice.injEq]at e
    obtain⟨rfl,rfl,rfl⟩:=e
    exact⟨nil (λ_=>rfl) h,h⟩
   ·rename_i e;simp at e
   ·rename_i e;simp at e
   ·rename_i e;simp at e
   ·rename_i e;simp at e
   ·cases h
 ·simp only at h ⊢
  exact⟨nil (λ_=>rfl) h,h⟩
 ·rename_i r j len cap
  simp only at h ⊢
  cases a:g r with
  | none=>rw[a]at h;simp at h
  | some b=>
   rw[a]at h
   rw[lu n rfl a]
   exact⟨nil (λ_=>rfl) h,h⟩
 ·rename_i r j len cap
  simp only at h ⊢
  cases a:g r with
  | none=>rw[a]at h;simp at h
  | some b=>
   rw[a]at h
   rw[lu n rfl a]
   exact⟨nil (λ_=>rfl) h,h⟩
theorem vT{g c:bD}{v:AV}{p:Nat × List AV}(h:aV g v=some p)(d:Seen g c v):aV c v=some p:=by
 unfold aV at h ⊢
 cases v<;>(try (simp at h;done))
 ·rename_i y
  cases y<;>first | exact h | (simp at h;done)
 ·exact h
 ·rename_i r e len cap
  simp only at h ⊢
  cases a:g r with
  | none=>rw[a]at h;simp at h
  | some b=>
   rw[a]at h
   rw[lu d rfl a]
   exact h
theorem oA{P:Program}{g m:bD}{r r':Ref}{d f:TypeId}{v x:AV}{k:List ax}(n:bp P f=false)(h:bI P g r d f (some v)=some (x,k))(t:Seen g m v) :
 k=[]/\bI P m r' d f (some v)=some (x,k):=by
 have other : ∀ {y:AV},y=v->(if bp P d&&isStr P f then
  match aV g y with
  | some (_,es)=>(es.mapM byteOf).map λl=>((AV.v (.string ⟨l.toArray⟩),[]):AV × List ax)
  | none=>none
  else if d == f&&bp P d then
   match y with
   | .aD r' _ _ _=>(match g r' with
    | some b=>if b.esz=1 then some (y,[]) else none
    | none=>none)
   | _=>none
  else none)=some (x,k)->k=[]/\(if bp P d&&isStr P f then
   match aV m y with
   | some (_,es)=>(es.mapM byteOf).map λl=>((AV.v (.string ⟨l.toArray⟩),[]):AV × List ax)
   | none=>none
  else if d == f&&bp P d then
   match y with
   | .aD r' _ _ _=>(match m r' with
    | some b=>if b.esz=1 then some (y,[]) else none
    | none=>none)
   | _=>none
  else none)=some (x,k):=by
  intro y e h
  split at h
  ·rename_i q
   rw[if_pos q]
   cases he:aV g y with
   | none=>rw[he]at h;simp at h
   | some p=>
    rw[he]at h
    rw[vT he (e ▸ t)]
    refine⟨?_,h⟩
    obtain⟨_,_,h⟩:=aC.1 h
    cases h;rfl
  ·rename_i q
   split at h
   ·rename_i j
    simp only[bR,beq_iff_eq]at j
    rw[j.1,n]at j
    simp at j
   ·cases h
 unfold bI at h ⊢
 cases v
 case v y=>
  cases y
  case string s=>
   simp only[n,rB,kF,if_false]at h ⊢
   exact⟨by obtain⟨_,h⟩:=cc.1 h;cases h;rfl,h⟩
  case slice a l c=>
   rcases a with _ | a
   ·rcases l with _ | l
    ·rcases c with _ | c
     ·exact⟨by obtain⟨_,h⟩:=cc.1 h;cases h;rfl,h⟩
     ·exact⟨(iY h).2,h⟩
    ·exact⟨(iY h).2,h⟩
   ·exact⟨(iY h).2,h⟩
  all_goals exact⟨(iY h).2,h⟩
 all_goals exact other rfl h
theorem pV{P:Program}{H H':aa}{d a:Nat}{t:TypeId}{n:Nat}{m:List (Nat × AV)}{x:AV}(h:eF P H ⟨d,a,H.gen d a,0⟩ t n (some m)=some (x,H')):my H H' /\∀q,H'.get q≠H.get q->Made H H' q\/q∈aP H.get (m.map (·.2)):=by
 simp only[eF,aC]at h
 obtain⟨b,K,h⟩:=h
 injection h with J v
 subst v
 generalize z:aP H.get (m.map (·.2))=R
 have c : ∀q,aa.get ((⟨d,a,H.gen d a,0⟩,some b) :: aT H R) q=if (⟨d,a,H.gen d a,0⟩:Ref)=q then some b else j7 H.get R q:=by
  intro q;simp only[aa.get,aa.bu]
 have j : ∀k t',aa.gen ((⟨d,a,H.gen d a,0⟩,some b) :: aT H R) k t'=if d=k/\a=t' then H.gen d a+1 else H.gen k t':=by
  intro k t';simp only[aa.gen,aa.dq]
 have f : ∀q,(⟨d,a,H.gen d a,0⟩:Ref)=q->Made H ((⟨d,a,H.gen d a,0⟩,some b) :: aT H R) q:=by
  intro q e
  subst e
  refine⟨a7 _,?_⟩
  rw[j,if_pos ⟨rfl,rfl⟩]
  exact iT _
 refine⟨⟨λk t'=>?_,λq g=>?_,λq L y u p l=>?_⟩,λq g=>?_⟩
 ·rw[j];split
  ·rename_i e;rw[<-e.1,<-e.2];exact oN _
  ·exact a7 _
 ·rw[c]at g
  split at g
  ·rename_i e;exact .inr (f q e)
  ·exact .inl (sT g)
 ·rw[c]at l
  split at l
  ·rename_i e;subst e;exact absurd p (od _)
  ·exact vM u l
 ·rw[c]at g
  split at g
  ·rename_i e;exact .inl (f q e)
  ·unfold j7 at g
   split at g
   ·rename_i s;exact .inr s
   ·exact absurd rfl g
theorem po{P:Program}{g d:bD}{t:TypeId}{v x:AV}{k:Option AV}{ok:Bool}{j:List ax}(h:gU P g t (some v) k ok=some (x,j))(m:Seen g d v):j=[]/\gU P d t (some v) k ok=some (x,j):=by
 unfold gU at h ⊢
 cases v<;>(try (simp at h;done))
 rename_i r
 cases c:yN P t with
 | none=>rw[c]at h;simp at h
 | some p=>
 obtain⟨n,q⟩:=p
 cases l:k.bind gT with
 | none=>rw[c,l]at h;simp at h
 | some s=>
 rw[c,l]at h
 simp only at h ⊢
 cases hm:gj g r with
 | none=>rw[hm]at h;simp at h
 | some a=>
 have e:gj d r=some a:=by
  unfold gj at hm ⊢
  cases f:g r with
  | none=>rw[f]at hm;simp at hm
  | some b=>rw[f]at hm;rw[lu m rfl f];exact hm
 rw[e]
 rw[hm]at h
 refine⟨?_,h⟩
 simp only at h
 split at h
 ·split at h
  ·obtain⟨_,_,h⟩:=aC.1 h;cases h;rfl
  ·obtain⟨_,_,h⟩:=aC.1 h;cases h;rfl
  ·cases h
 ·cases h
theorem DX{E:Env}{pc:FuncId->List AV->Option AV}{g k:bD}{tm:List AV}{r:Ref}{o:Oper}(b:blind E o=true){x:AV}{e:List ax}(h:bh E pc true g tm r o=some (x,e)) :
 bh E pc true k tm r o=some (x,e):=by
 unfold blind at b
 replace b:=(lW.1 b).2
 split at b
 ·rename_i a
  unfold bh at h ⊢
  simp only[a]at h ⊢
  exact h
 ·rename_i a
  unfold bh at h ⊢
  simp only[a]at h ⊢
  exact h
 ·rename_i c a
  obtain⟨j,d⟩:=lW.1 b
  split at d
  ·rename_i f l
   have m:c.args.toList=[]:=by simpa using j
   unfold bh at h ⊢
   simp only[a,m,l,mI,List.mapM_nil,lh,ak,iq,mZ,aP,List.flatMap_nil]at h ⊢
   exact h
  ·cases d
 ·cases b
theorem zo{E:Env}{o:Oper}(h:zp E o=true):blind E o=true:=by
 unfold zp at h
 unfold blind
 obtain⟨c,b⟩:=lW.1 h
 rw[c,o6]
 split at b
 ·rename_i a;rw[a]
 ·rename_i a;rw[a]
 ·cases b
theorem BA{E:Env}{oi a:Oper}(h:blind E oi=false):gY E oi a=false:=by
 unfold gY
 cases b:zp E oi with
 | false=>rfl
 | true=>rw[zo b]at h;cases h
theorem gX{E:Env}{oi a:Oper}(h:cls E oi≠3):gY E oi a=false:=by
 unfold gY zp
 rw[beq_false_of_ne h]
 rfl
theorem BB{E:Env}{oi a:Oper}(h:((s9 a.op).isSome&&a.dst.isSome)=false):gY E oi a=false:=by
 unfold gY
 rw[h,rB]
theorem zn{E:Env}{pc:FuncId->List AV->Option AV}{g:bD}{tm:List AV}{r:Ref}{o:Oper}(b:zp E o=true){x:AV}{c:List ax}(h:bh E pc true g tm r o=some (x,c)):c≠[]:=by
 unfold zp at b
 replace b:=(lW.1 b).2
 split at b
 ·rename_i a
  unfold bh at h
  simp only[a]at h
  unfold mG at h
  split at h
  ·split at h
   ·cases h;simp
   ·cases h
  ·cases h
 ·rename_i a
  unfold bh at h
  simp only[a]at h
  cases h;simp
 ·cases b
theorem A2{E:Env}{pc:FuncId->List AV->Option AV}{tc:lb->List AV->aa->bk}{nt dep:Nat}{ops:Array Oper}{o:Oper}{st f:St}{t:Tmp}(a:s9 o.op=some t)(u:wanted ops st.tm o=some true)(h:evalOp E pc tc nt dep true ops o st=some f) :
 (∃x g tm',bh E pc true st.hp.get st.tm ⟨dep,o.dst.getD 0,st.hp.gen dep (o.dst.getD 0),0⟩ o=some (x,g)/\bl nt st.tm o.dst x=some tm'/\f=⟨tm',keyed ⟨dep,o.dst.getD 0,st.hp.gen dep (o.dst.getD 0),0⟩ 0 g st.hp⟩) \/
 ∃c y z x,o.op = .call c/\c.callee = .builtin .append/\c.args.toList.mapM (ak st.tm)=some [y,z]/\fg E.P st.hp c.argTypes[0]? c.argTypes[1]? y z=some (x,f.hp)/\y=cm st.tm t/\bl nt st.tm o.dst x=some f.tm:=by
 unfold evalOp at h
 rw[u]at h
 simp only at h
 split at h
 ·rename_i x g v
  simp only[aC]at h
  obtain⟨tm',j,rfl⟩:=h
  exact .inl ⟨x,g,tm',v,j,rfl⟩
 ·split at h
  ·cases h
  ·split at h
   ·rename_i x H d
    simp only[aC]at h
    obtain⟨tm',j,rfl⟩:=h
    refine .inr ?_
    unfold s9 at a
    split at a
    ·rename_i c n
     split at a
     ·rename_i p
      split at a
      ·rename_i t' rest b
       cases a
       unfold evalW at d
       simp only[n,p,b]at d
       cases hm:List.mapM (ak st.tm) (Operand.tmp t :: rest) with
       | none=>rw[hm]at d;simp at d
       | some args=>
        rw[hm]at d
        have k:=hm
        simp only[jQ,ak,lh,lV,cQ,dL]at hm
        obtain⟨l,J,e⟩:=hm
        simp at e
        subst e
        simp only at d
        split at d
        ·rename_i s y m q
         cases q
         exact⟨c,_,_,x,n,p,by rw[b];exact k,d,rfl,j⟩
        ·rename_i m q;cases m
        ·cases d
      ·cases a
     ·cases a
    ·cases a
   ·cases h
theorem xq{E:Env}{pc:FuncId->List AV->Option AV}{g:bD}{tm:List AV}{r:Ref}{o:Oper}{t:Tmp}(d:oD E.P o.op=some t){x:AV}{J:List ax}(h:bh E pc true g tm r o=some (x,J)) :
 J=[] /\∀f r',Seen g f (cm tm t)->bh E pc true f tm r' o=some (x,J):=by
 unfold oD at d
 split at d
 ·rename_i ty t' a
  cases d
  unfold bh at h ⊢
  simp only[a]at h ⊢
  exact⟨(sq h (λ_ _ _=>rfl)).1,λf r' e=>(sq h e).2⟩
 ·rename_i ty t' U a
  cases d
  unfold bh at h ⊢
  simp only[a]at h ⊢
  exact⟨(m6 h (λ_ _ _=>rfl)).1,λf r' e=>(m6 h e).2⟩
 ·rename_i ty t' T R S a
  cases d
  unfold bh at h ⊢
  simp only[a,uT,rB,cond_false]at h ⊢
  exact⟨(qt h (λ_ _ _=>rfl)).1,λf r' e=>(qt h e).2⟩
 ·rename_i Q y t' a
  split at d
  ·cases d
  ·rename_i u
   cases d
   unfold bh at h ⊢
   simp only[a]at h ⊢
   have j:bp E.P y=false:=by simpa using u
   exact⟨(oA (r':=r) j h (λ_ _ _=>rfl)).1,λf r' e=>(oA j h e).2⟩
 ·rename_i ty t' k ok a
  cases d
  unfold bh at h ⊢
  simp only[a]at h ⊢
  exact⟨(po h (λ_ _ _=>rfl)).1,λf r' e=>(po h e).2⟩
 ·rename_i c a
  split at d
  ·rename_i O
   split at d
   ·rename_i t' l
    cases d
    unfold bh at h ⊢
    simp only[a,l,O,jQ,List.mapM_nil,ak,lh,lV,cQ]at h ⊢
    cases K:cm tm t with
    | mp q=>
     rw[K]at h
     simp only[bS]at h ⊢
     obtain⟨N,h⟩:=yH.1 h
     simp only[if_neg N]
     refine⟨?_,λf r' e=>?_⟩
     ·unfold nR at h
      split at h
      ·cases h;rfl
      ·cases h
     ·unfold nR at h ⊢
      split at h
      ·rename_i p s L m
       have v:gj f q=some s:=by
        unfold gj at m ⊢
        cases z:g q with
        | none=>rw[z]at m;simp at m
        | some b=>rw[z]at m;rw[lu e rfl z];exact m
       simp only[L,v]
       exact h
      ·cases h
    | _=>
     rw[K]at h
     simp only[bS]at h ⊢
     refine⟨?_,λf r' e=>h⟩
     unfold tv at h
     (repeat' split at h)<;>(try simp_all)<;>(try (obtain⟨_,_,_,h⟩:=h;exact h))<;>(try (obtain⟨n,_,h⟩:=dL.1 h;simp at h;exact h.2))
   ·cases d
  ·cases d
 ·cases d
end
section
section
variable{E:Env}{o:Oper}
theorem sZ(h:cls E o=0):lP E o=false:=by
 unfold cls at h
 cases a:lP E o with
 | false=>rfl
 | true=>rw[a]at h;simp only[if_true]at h;(repeat' split at h)<;>omega
theorem vW(h:cls E o=1) : ∃t,oD E.P o.op=some t/\fW E o=some t/\dK E o=false:=by
 unfold cls at h
 split at h
 ·split at h
  ·cases h
  ·rename_i d
   split at h
   ·rename_i f
    obtain⟨t,a⟩:=fe.1 f
    refine⟨t,a,?_,?_⟩
    ·have:storeT o.op=none:=by simpa using d
     simp[fW,this,a]
    ·unfold dK
     have:Gj E o.op=false/\n9 o.op=false:=by
      unfold oD at a
      split at a<;>(try (rename_i b;rw[b];exact⟨rfl,rfl⟩))
      ·rename_i c b
       split at a
       ·rename_i e
        rw[b]
        simp[Gj,n9,e]
       ·cases a
      cases a
     rw[this.1,this.2];simp
   ·split at h<;>cases h
 ·cases h
theorem AJ(h:cls E o=2) : ∃ty t x,o.op = .store ty (.tmp t) x/\fW E o=some t:=by
 unfold cls at h
 split at h
 ·split at h
  ·rename_i d
   obtain⟨t,a⟩:=fe.1 d
   have c:=a
   unfold storeT at a
   split at a
   ·rename_i ty t' x b
    cases a
    exact⟨ty,t,x,b,by simp[fW,c]⟩
   ·cases a
  ·(repeat' split at h)<;>cases h
 ·cases h
theorem nY(h:cls E o=3):lP E o=true/\dK E o=false:=by
 unfold cls at h
 split at h
 ·rename_i b
  split at h
  ·cases h
  ·split at h
   ·cases h
   ·split at h
    ·cases h
    ·rename_i a;exact⟨b,by simpa using a⟩
 ·cases h
theorem xX(h:cls E o=4):fW E o=if n9 o.op then Gc o.op else rT o.op:=by
 unfold cls at h
 split at h
 ·split at h
  ·cases h
  ·rename_i a
   split at h
   ·cases h
   ·rename_i d
    have b:storeT o.op=none:=by simpa using a
    have c:oD E.P o.op=none:=by simpa using d
    simp[fW,b,c]
 ·cases h
end
theorem w5{E:Env}{o:Oper}(h:iF E o=true) : ∃c g,o.op = .call c/\c.callee = .value (.func g)/\E.mode g=2/\E.cS o=true/\E.strict o=false:=by
 unfold iF at h
 rw[bR,bR]at h
 obtain⟨⟨e,d⟩,a⟩:=h
 split at a
 ·rename_i c b
  split at a
  ·rename_i g f
   exact⟨c,g,b,f,by simpa using a,e,by simpa using d⟩
  ·cases a
 ·cases a
theorem Ba{E:Env}{o:Oper}(h:iF E o=true):cls E o=4/\fW E o=none:=by
 obtain⟨c,g,a,b,hm,n,k⟩:=w5 h
 have d:storeT o.op=none:=by rw[a];rfl
 have e:oD E.P o.op=none:=by rw[a];simp[oD,b]
 have p:eC o.op=true:=by rw[a];simp[eC,b]
 have f:dK E o=true:=by simp[dK,k,a,Gj,b,hm]
 have j:rT o.op=none:=by rw[a];simp[rT,Bn,s9,b]
 have m:n9 o.op=false:=by rw[a];rfl
 refine⟨?_,?_⟩
 ·have l:lP E o=true:=dp f
  simp[cls,d,e,l,f]
 ·simp[fW,d,e,j,m]
theorem jF{E:Env}{o:Oper}{t:Tmp}(h:fW E o=some t):iF E o=false:=by
 cases a:iF E o with
 | false=>rfl
 | true=>rw[(Ba a).2]at h;cases h
theorem C9{E:Env}{pc:FuncId->List AV->Option AV}{tc:lb->List AV->aa->bk}{H H':aa}{tm:List AV}{r:Ref}{o:Oper}{t:Tmp}(f:Bn o.op=some t){x:AV}(h:evalW E pc tc H tm r o=some (x,H')) :
 ∃q a b,fG (cm tm t)=some q/\gj H.get q=some a/\H'=H.put q (some (ig b)):=by
 have g : ∀ {ty:TypeId} {m:AV} {k v:Option AV} {y:AV} {H':aa},dM E.P H ty (some m) k v=some (y,H') ->∃q a b,fG m=some q/\gj H.get q=some a/\H'=H.put q (some (ig b)):=by
  intro ty m k v y H' h
  unfold dM at h
  split at h
  ·rename_i p u q k' s j d
   simp only[cz]at d
   subst d
   split at h
   ·rename_i z a l e
    split at h
    ·split at h
     ·split at h
      ·cases h;exact⟨q,a,_,rfl,e,rfl⟩
      ·cases h
     ·cases h;exact⟨q,a,_,rfl,e,rfl⟩
     ·cases h
    ·cases h
   ·cases h
  ·cases h
 unfold Bn at f
 split at f
 ·rename_i c
  cases f
  unfold evalW at h
  simp only[c,ak]at h
  exact g h
 ·rename_i c
  cases f
  unfold evalW at h
  simp only[c,ak]at h
  exact g h
 ·rename_i ty t' k c
  cases f
  unfold evalW at h
  simp only[c,ak]at h
  unfold iL at h
  split at h
  ·rename_i p u q k' j d J
   split at h
   ·rename_i z a l e
    split at h
    ·split at h
     ·split at h
      ·simp only[aC]at h
       obtain⟨v,_,h⟩:=h
       cases h
       simp only[cz]at d
       exact⟨q,a,_,by rw[d];rfl,e,rfl⟩
      ·cases h
     ·simp only[aC]at h
      obtain⟨v,_,h⟩:=h
      cases h
      simp only[cz]at d
      exact⟨q,a,_,by rw[d];rfl,e,rfl⟩
     ·cases h
    ·cases h
   ·cases h
  ·cases h
 ·rename_i k t' m s c
  cases f
  unfold evalW at h
  simp only[c,ak]at h
  unfold ff at h
  split at h
  ·rename_i q L n K j d J
   split at h
   ·rename_i a e
    split at h
    ·split at h
     ·cases h
      simp only[cz]at j
      exact⟨q,a,_,by rw[j];rfl,e,rfl⟩
     ·cases h
    ·cases h
   ·cases h
  ·cases h
 ·cases f
theorem Bo{g:bD}{r:Ref}{a:List AV}(h:gj g r=some a) : ∃b,g r=some b/\b.arr=false:=by
 unfold gj at h
 split at h
 ·rename_i e;exact⟨_,e,rfl⟩
 ·cases h
theorem my.map{H:aa}{r:Ref}{b a:List AV}(g:gj H.get r=some b):my H (H.put r (some (ig a))):=by
 obtain⟨n,f,j⟩:=Bo g
 refine⟨λd t=>?_,λq h=>?_,λq m l h k c=>?_⟩
 ·rw[aa.b8 _ _ _ (by rw[f];rfl)];exact a7 _
 ·rw[aa.aj]at h
  split at h
  ·rename_i e;subst e;exact .inl (by rw[f];simp)
  ·exact .inl h
 ·rw[aa.aj]at c
  split at c
  ·rename_i e;subst e
   cases c
   rw[f]at h;cases h
   rw[j];rfl
  ·rw[h]at c;cases c;rfl
theorem D2{E:Env}{pc:FuncId->List AV->Option AV}{tc:lb->List AV->aa->bk}{H H':aa}{tm:List AV}{r:Ref}{o:Oper}{t:Tmp}(a:s9 o.op=some t){x:AV}(h:evalW E pc tc H tm r o=some (x,H')) :
 ∃m k y z,fG y=fG (cm tm t)/\fg E.P H m k y z=some (x,H'):=by
 unfold s9 at a
 split at a
 ·rename_i c d
  split at a
  ·rename_i j
   split at a
   ·rename_i t' rest b
    cases a
    unfold evalW at h
    simp only[d,j,b]at h
    cases hm:List.mapM (ak tm) (Operand.tmp t :: rest) with
    | none=>rw[hm]at h;simp at h
    | some args=>
     rw[hm]at h
     simp only[jQ,ak,lh,lV,cQ,dL]at hm
     obtain⟨l,a,e⟩:=hm
     simp at e
     subst e
     simp only at h
     split at h
     ·rename_i s y f g
      cases g
      exact⟨_,_,_,_,rfl,h⟩
     ·rename_i f g;cases f
     ·cases h
   ·cases a
  ·cases a
 ·cases a
theorem yK{P:Program}{H H':aa}{t:TypeId}{a x:Option AV}{y:AV}(h:eB P H t a x=some (y,H'))(d k:Nat):H'.gen d k=H.gen d k:=by
 unfold eB at h
 split at h
 ·split at h
  ·rename_i r' i j s n _ b f
   obtain⟨⟨m,p,q⟩,h⟩:=cc.1 h
   split at h
   ·split at h
    ·rename_i u l
     split at h
     ·cases h
     ·rename_i e
      obtain⟨g,h⟩:=cc.1 h
      simp only[aC]at h
      obtain⟨es',c,h⟩:=h
      cases h
      rw[aa.b8 _ _ _ (by rw[aa.bu];unfold j7;rw[if_neg e,f];rfl),aa.dq]
    ·cases h
   ·simp only[aC]at h
    obtain⟨es',c,h⟩:=h
    cases h
    rw[aa.b8 _ _ _ (by rw[f];rfl)]
  ·cases h
 ·cases h
theorem wQ{P:Program}{M:Mem}{ι:Map}{g:bD}{w:World}(q:cT M ι g w){t:TypeId}{n:Nat}(z:ay P t=some n){r:Ref}{i j:Nat}{x:AV}{s e:Value}(S:VR M ι (.ptr r i j) s)(y:VR M ι x e)
 {b:ax} (u:g r=some b) (K:x.cells.length=n) (f:x.cells.all AV.one=true) (k:b.cS=false) (a:b.arr=false) {es':List AV} (m:eA b.es i j x.cells=some es') :
 ∃w',(Instr.storeAt t s e).run P w = .ok () w'/\cT M ι (fv g r { b with es:=es'}) w'/\kb M ι g w M ι (fv g r { b with es:=es'}) w':=by
 cases S with | ptr v c=>
 rename_i l
 have p:=q.at v c u
 have d:=y.cells
 have h:e.cells.size=n:=by have:=d.1;simp at this;omega
 obtain⟨arr,T,fz,R,O,Q,N,J,L⟩:=rI q u v c k m f (us:=e.cells.toList) (by rw[ax.map,if_neg (by simp[a])];exact d)
 refine⟨aJ w l.b (.cells (aZ arr (i * b.esz+j) e.cells.toList) T fz),?_,J,L⟩
 rw[p.esz]
 exact nj z h R O Q N
section
variable{E:Env}{pc:FuncId->List AV->Option AV}{tc:lb->List AV->aa->bk}{nt dep:Nat}{ops:Array Oper}{sts:Nat->St}
variable(C:HL E ops)(A : ∀i o,ops[i]?=some o->evalOp E pc tc nt dep true ops o (sts i)=some (sts (i+1)))
abbrev makes(sts:Nat->St)(j:Nat)(q:Ref):Prop:=Made (sts j).hp (sts (j+1)).hp q
abbrev turns(sts:Nat->St)(j:Nat)(q:Ref):Prop:=(sts (j+1)).hp.get q≠(sts j).hp.get q
theorem EI{o:Oper}{st b:St}{t:Tmp}(a:Gc o.op=some t)(h:evalOp E pc tc nt dep true ops o st=some b) :
 b.hp=st.hp\/(∃e,b.hp=keyed ⟨dep,o.dst.getD 0,st.hp.gen dep (o.dst.getD 0),0⟩ 0 e st.hp) \/∃f n i x,eF E.P st.hp ⟨dep,o.dst.getD 0,st.hp.gen dep (o.dst.getD 0),0⟩ f n (some [(i,cm st.tm t)])=some (x,b.hp):=by
 unfold evalOp at h
 split at h
 ·cases h
 ·simp only[aC]at h
  obtain⟨tm',g,rfl⟩:=h
  exact .inl rfl
 ·split at h
  ·rename_i x e k
   simp only[aC]at h
   obtain⟨tm',g,rfl⟩:=h
   exact .inr (.inl ⟨e,rfl⟩)
  ·split at h
   ·cases h
   ·split at h
    ·rename_i x H c
     simp only[aC]at h
     obtain⟨tm',g,rfl⟩:=h
     unfold Gc at a
     split at a
     ·rename_i f n ps j
      split at a
      ·rename_i i t' d
       cases a
       unfold evalW at c
       simp only[j,d]at c
       exact .inr (.inr ⟨f,n,i,x,c⟩)
      ·cases a
     ·cases a
    ·cases h
theorem nM{o:Oper}{st c:St}(a:cls E o=0\/cls E o=1)(h:evalOp E pc tc nt dep true ops o st=some c):c.hp=st.hp:=by
 rcases gG h with ⟨_,tm',d,he⟩ | ⟨_,x,bs,e,tm',d,he⟩ | b
 ·rw[he]
 ·rw[he]
  rcases a with a | a
  ·rw[(mf (sZ a) e).1];rfl
  ·obtain⟨t,d,_,_⟩:=vW a
   rw[(xq d e).1];rfl
 ·rcases a with a | a
  ·have:=sZ a;rw[dp b]at this;cases this
  ·obtain⟨t,d,_,hw⟩:=vW a
   rw[hw]at b;cases b
theorem r7{o:Oper}{st a:St}{ty:TypeId}{t:Tmp}{d:Operand}(b:o.op = .store ty (.tmp t) d)(h:evalOp E pc tc nt dep true ops o st=some a)(g:wanted ops st.tm o=some true) :
 ∃y,eB E.P st.hp ty (some (cm st.tm t)) (ak st.tm d)=some (y,a.hp)/\bl nt st.tm o.dst y=some a.tm:=by
 unfold evalOp at h
 rw[g]at h
 have f:bh E pc true st.hp.get st.tm ⟨dep,o.dst.getD 0,st.hp.gen dep (o.dst.getD 0),0⟩ o=none:=by unfold bh;simp only[b]
 rw[f]at h
 simp only at h
 split at h
 ·cases h
 ·split at h
  ·rename_i x H c
   simp only[aC]at h
   obtain⟨tm',e,rfl⟩:=h
   unfold evalW at c
   simp only[b]at c
   exact⟨x,c,e⟩
  ·cases h
theorem step_map{o:Oper}{st a:St}{t:Tmp}(d:Bn o.op=some t)(h:evalOp E pc tc nt dep true ops o st=some a) :
 a.hp=st.hp\/(∃e,a.hp=keyed ⟨dep,o.dst.getD 0,st.hp.gen dep (o.dst.getD 0),0⟩ 0 e st.hp) \/∃q c b,fG (cm st.tm t)=some q/\gj st.hp.get q=some c/\a.hp=st.hp.put q (some (ig b)):=by
 unfold evalOp at h
 split at h
 ·cases h
 ·simp only[aC]at h
  obtain⟨tm',f,rfl⟩:=h
  exact .inl rfl
 ·split at h
  ·rename_i x e j
   simp only[aC]at h
   obtain⟨tm',f,rfl⟩:=h
   exact .inr (.inl ⟨e,rfl⟩)
  ·split at h
   ·cases h
   ·split at h
    ·rename_i x H g
     simp only[aC]at h
     obtain⟨tm',f,rfl⟩:=h
     exact .inr (.inr (C9 d g))
    ·cases h
theorem A1{o:Oper}{st d:St}(k:iF E o=true)(h:evalOp E pc tc nt dep true ops o st=some d):d.hp=st.hp:=by
 obtain⟨c,g,e,f,hm,l,m⟩:=w5 k
 unfold evalOp at h
 split at h
 ·cases h
 ·simp only[aC]at h
  obtain⟨tm',j,rfl⟩:=h
  rfl
 ·split at h
  ·rename_i x n b
   exfalso
   unfold bh at b
   simp only[e,f]at b
   split at b
   ·cases b
   ·simp only[mI,ak,iq,hm,if_true,rC]at b
    cases b
  ·split at h
   ·cases h
   ·split at h
    ·rename_i x H a
     simp only[aC]at h
     obtain⟨tm',j,rfl⟩:=h
     unfold evalW at a
     simp only[e,f]at a
     split at a
     ·cases a
     ·rw[l]at a
      cases hw:ju E pc tc st.hp ⟨dep,o.dst.getD 0,st.hp.gen dep (o.dst.getD 0),0⟩ (ak st.tm (.func g)) _ with
      | none=>rw[hw]at a;simp[kG]at a
      | some p=>
       obtain⟨y,H'⟩:=p
       rw[hw]at a
       unfold kG at a
       simp only at a
       split at a
       ·cases a;rfl
       ·cases a
    ·cases h
theorem Cr{o:Oper}{st a:St}{t:Tmp}(b:s9 o.op=some t)(h:evalOp E pc tc nt dep true ops o st=some a) :
 a.hp=st.hp\/(∃c,a.hp=keyed ⟨dep,o.dst.getD 0,st.hp.gen dep (o.dst.getD 0),0⟩ 0 c st.hp) \/∃e d y z x,fG y=fG (cm st.tm t)/\fg E.P st.hp e d y z=some (x,a.hp):=by
 unfold evalOp at h
 split at h
 ·cases h
 ·simp only[aC]at h
  obtain⟨tm',f,rfl⟩:=h
  exact .inl rfl
 ·split at h
  ·rename_i x c l
   simp only[aC]at h
   obtain⟨tm',f,rfl⟩:=h
   exact .inr (.inl ⟨c,rfl⟩)
  ·split at h
   ·cases h
   ·split at h
    ·rename_i x H g
     simp only[aC]at h
     obtain⟨tm',f,rfl⟩:=h
     obtain⟨e,d,y,z,j,k⟩:=D2 b g
     exact .inr (.inr ⟨e,d,y,z,x,j,k⟩)
    ·cases h
theorem sN{H:aa}{d t:Nat}{b:List ax}{q:Ref}(h:(keyed ⟨d,t,H.gen d t,0⟩ 0 b H).get q≠H.get q):Made H (keyed ⟨d,t,H.gen d t,0⟩ 0 b H) q:=by
 rw[aa.fZ]at h
 unfold jJ at h
 split at h
 ·rename_i j
  obtain⟨c,a,f,g⟩:=j
  refine⟨?_,?_⟩
  ·rw[c,a,f];exact a7 _
  ·rw[aa.fM,if_pos ⟨c,a,by intro e;rw[e]at g;simp at g⟩,f];exact iT _
 ·exact absurd rfl h
include A in
theorem vp{i n:Nat}(a:i<=n)(g:n<=ops.size){t:Tmp}(d : ∀k,dQ ops k=some t->k<i):cm (sts n).tm t=cm (sts i).tm t:=by
 induction n with
 | zero=>rw[rn.1 a]
 | succ n f=>
  rcases cr n i with h | h
  ·rw[show i=n+1 by omega]
  ·have b:=ey (show n<ops.size from g)
   obtain⟨x,c⟩:=wS (A n _ b)
   rw[lj c,if_neg,f h (by omega)]
   intro e
   have:=d n (by simp[dQ,b,e])
   omega
variable(B:ops.toList.all (s8 E (sts ops.size))=true)
include C A B
theorem rW{i:Nat}{o:Oper}(Q:ops[i]?=some o):my (sts i).hp (sts (i+1)).hp/\(cls E o<3 ->∀d t,(sts (i+1)).hp.gen d t=(sts i).hp.gen d t) /\
 (cls E o≠2 ->∀q,turns sts i q->makes sts i q\/cls E o=4 /\∃t,fW E o=some t/\fG (cm (sts i).tm t)=some q):=by
 have h:=A i o Q
 have Kn:=qe E o
 have X:cls E o=0\/cls E o=1\/cls E o=2\/cls E o=3\/cls E o=4:=by omega
 have same:(sts (i+1)).hp=(sts i).hp->my (sts i).hp (sts (i+1)).hp/\(cls E o<3 ->∀d t,(sts (i+1)).hp.gen d t=(sts i).hp.gen d t) /\
  (cls E o≠2 ->∀q,turns sts i q->makes sts i q\/cls E o=4 /\∃t,fW E o=some t/\fG (cm (sts i).tm t)=some q):=by
  intro e
  refine⟨by rw[e];exact my.refl _,λ_ d t=>by rw[e],λ_ q f=>?_⟩
  unfold turns at f
  rw[e]at f
  exact absurd rfl f
 rcases X with a | a | a | a | a
 ·exact same (nM (.inl a) h)
 ·exact same (nM (.inr a) h)
 ·obtain⟨ty,t,x,Z,hs⟩:=AJ a
  cases J:wanted ops (sts i).tm o with
  | none=>unfold evalOp at h;rw[J]at h;cases h
  | some b=>
   cases b with
   | false=>
    unfold evalOp at h;rw[J]at h
    simp only[aC]at h
    obtain⟨tm',_,e⟩:=h
    exact same (by rw[<-e])
   | true=>
    obtain⟨y,hW,_⟩:=r7 Z h J
    exact⟨wz hW,λ_ d t=>yK hW d t,λhn=>absurd a hn⟩
 ·have Y:=(nY a).2
  rcases gG h with ⟨_,tm',m,he⟩ | ⟨_,x,l,f,tm',m,he⟩ | s
  ·exact same (by rw[he])
  ·have e:(sts (i+1)).hp=keyed ⟨dep,o.dst.getD 0,(sts i).hp.gen dep (o.dst.getD 0),0⟩ 0 l (sts i).hp:=by rw[he]
   refine⟨by rw[e];exact my.keyed _ _ _ _,λp=>by omega,λ_ q f => .inl ?_⟩
   unfold turns at f
   unfold makes
   rw[e]at f ⊢
   exact sN f
  ·rw[Y]at s;cases s
 ·cases N:iF E o with
  | true=>exact same (A1 N h)
  | false=>
  obtain⟨t,m,V⟩:=C.stay i o Q (by omega) (by omega) N
  have T : ∀l,(sts (i+1)).hp=keyed ⟨dep,o.dst.getD 0,(sts i).hp.gen dep (o.dst.getD 0),0⟩ 0 l (sts i).hp->my (sts i).hp (sts (i+1)).hp/\(cls E o<3 ->∀d t,(sts (i+1)).hp.gen d t=(sts i).hp.gen d t) /\
   (cls E o≠2 ->∀q,turns sts i q->makes sts i q\/cls E o=4 /\∃t,fW E o=some t/\fG (cm (sts i).tm t)=some q):=by
   intro l e
   refine⟨by rw[e];exact my.keyed _ _ _ _,λp=>by omega,λ_ q f => .inl ?_⟩
   unfold turns at f
   unfold makes
   rw[e]at f ⊢
   exact sN f
  cases O:n9 o.op with
  | false=>
   have j:rT o.op=some t:=by rw[xX a,O]at m;simpa using m
   cases u:Bn o.op with
   | some t'=>
    have e':t'=t:=by unfold rT at j;rw[u]at j;simpa using j
    subst e'
    rcases step_map u h with e | ⟨l,e⟩ | ⟨q,x6,R,f,hm,e⟩
    ·exact same e
    ·exact T l e
    ·refine⟨by rw[e];exact my.map hm,λp=>by omega,λ_ q' g => .inr ⟨a,t',m,?_⟩⟩
     unfold turns at g
     rw[e,aa.aj]at g
     split at g
     ·rename_i e2;subst e2;exact f
     ·exact absurd rfl g
   | none=>
   have G:s9 o.op=some t:=by unfold rT at j;rw[u]at j;exact j
   rcases Cr G h with e | ⟨l,e⟩ | ⟨t1,t2,y,z,x,hy,W⟩
   ·exact same e
   ·exact T l e
   ·obtain⟨hm,r,hr,f⟩:=vg W
    refine⟨hm,λp=>by omega,λ_ q g=>?_⟩
    rcases f q g with k | k
    ·exact .inl k
    ·subst k;exact .inr ⟨a,t,m,by rw[<-hy];exact hr⟩
  | true=>
   have L:Gc o.op=some t:=by rw[xX a,O]at m;simpa using m
   rcases EI L h with e | ⟨l,e⟩ | ⟨t1,n,i',x,W⟩
   ·exact same e
   ·exact T l e
   ·obtain⟨hm,f⟩:=pV W
    refine⟨hm,λp=>by omega,λ_ q g=>?_⟩
    rcases f q g with k | k
    ·exact .inl k
    ·refine .inr ⟨a,t,m,?_⟩
     have U:(E.cS o&&n9 o.op)=true:=by
      have J:dK E o=true:=by
       unfold cls at a
       split at a
       ·split at a
        ·cases a
        ·split at a
         ·cases a
         ·split at a
          ·assumption
          ·cases a
       ·cases a
      unfold dK at J
      rcases rF.1 J with K | K
      ·exfalso
       replace K:=(lW.1 K).2
       unfold n9 at O
       split at O
       ·rename_i S;rw[S]at K;cases K
       ·cases O
      ·exact K
     have hi:i<ops.size:=(dz.1 Q).1
     have c:=dh.1 B o (da (i:=i) (by simpa using Q))
     unfold s8 at c
     rw[U,L]at c
     simp only[uT,Bool.false_or]at c
     rw[vp A (dJ hi) (a7 ops.size) V]at c
     simp only[o5,List.map_nil,aP,gz,List.flatMap_nil,og]at k
     revert c k
     generalize cm (sts i).tm t=v
     intro c k
     cases v with
     | aD r off len cap=>simp only[ab,depth,kE]at k;rw[k];rfl
     | v y=>simp[ab,depth]at k
     | _=>cases c
theorem jv{i n:Nat}(a:i<=n)(c:n<=ops.size)(d t:Nat):(sts i).hp.gen d t<=(sts n).hp.gen d t:=by
 induction n with
 | zero=>rw[rn.1 a];exact a7 _
 | succ n b=>
  rcases cr n i with h | h
  ·rw[show i=n+1 by omega];exact a7 _
  ·exact ld (b h (by omega)) ((rW C A B (ey (show n<ops.size from c))).1.gen d t)
theorem yQ{M:Mem}{ι:Map}{w:World}(D:cT M ι (sts 0).hp.get w)(F:jA ι (sts 0).hp){n:Nat}(j:n<=ops.size) : ∀q,(sts n).hp.get q≠none->q.g<(sts n).hp.gen q.d q.t:=by
 induction n with
 | zero=>
  intro q h
  cases c:(sts 0).hp.get q with
  | none=>exact absurd c h
  | some k=>obtain⟨l,e,_⟩:=D.live q k c;exact F q l e
 | succ n f=>
  intro q h
  have b:=(rW C A B (ey (show n<ops.size from j))).1
  rcases b.born q h with a | a
  ·exact o9 (f (by omega) q a) (b.gen _ _)
  ·exact a.2
theorem Iz{M:Mem}{ι:Map}{w:World}(D:cT M ι (sts 0).hp.get w)(F:jA ι (sts 0).hp){i:Nat}{r:Ref}{b:ax}(e:(sts i).hp.get r=some b){n:Nat}(j:i<=n)(p:n<=ops.size) : ∀a,(sts n).hp.get r=some a->a.arr=b.arr:=by
 induction n with
 | zero=>intro a h;rw[rn.1 j]at e;rw[e]at h;cases h;rfl
 | succ n m=>
  intro a h
  rcases cr n i with q | c
  ·rw[show i=n+1 by omega]at e;rw[e]at h;cases h;rfl
  ·have l:=(rW C A B (ey (show n<ops.size from p))).1
   rcases l.born r (by rw[h];simp)with f | f
   ·cases g:(sts n).hp.get r with
    | none=>exact absurd g f
    | some k=>rw[l.arr r k a g (yQ C A B D F (by omega) r f) h];exact m c (by omega) k g
   ·have s:=yQ C A B D F (show i<=ops.size by omega) r (by rw[e];simp)
    have u:=jv C A B c (by omega) r.d r.t
    have:=f.1
    omega
theorem p6{j b:Nat}{q:Ref}(f:j<ops.size)(c:b<ops.size)(h:makes sts j q)(e:makes sts b q):j=b:=by
 rcases re j b with a | rfl | a
 ·have:=jv C A B (show j+1<=b from a) (dJ c) q.d q.t
  have:=h.2;have:=e.1
  omega
 ·rfl
 ·have:=jv C A B (show b+1<=j from a) (dJ f) q.d q.t
  have:=e.2;have:=h.1
  omega
theorem nq{j:Nat}{q:Ref}{o:Oper}(c:ops[j]?=some o)(h:makes sts j q):3<=cls E o:=by
 rcases cr (cls E o) 3 with a | b
 ·have:=(rW C A B c).2.1 a q.d q.t
  have e:=h.1;have f:=h.2
  omega
 ·exact b
variable{M:Mem}{ι:Map}{w:World}
variable(D:cT M ι (sts 0).hp.get w)(F:jA ι (sts 0).hp)(G:(ji E ops).all (qq (sts ops.size).tm)=true)(I:ops.toList.all (ma (sts ops.size))=true)
include D F I
theorem Ac{i:Nat}{o:Oper}(k:ops[i]?=some o)(W:cls E o=2)(T:wanted ops (sts i).tm o=some true) :
 ∃ty t j r h l b x n es',o.op = .store ty (.tmp t) j/\fW E o=some t/\cm (sts i).tm t = .ptr r h l/\(sts i).hp.get r=some b/\b.arr=false/\b.cS=false/\ak (sts i).tm j=some x/\ay E.P ty=some n /\
  x.cells.length=n/\x.cells.all AV.one=true/\eA b.es h l x.cells=some es'/\(sts (i+1)).hp=(sts i).hp.put r (some { b with es:=es'})/\bl nt (sts i).tm o.dst AV.undef=some (sts (i+1)).tm:=by
 have K:i<ops.size:=(dz.1 k).1
 obtain⟨ty,t,j,f,q⟩:=AJ W
 obtain⟨y,c,O⟩:=r7 f (A i o k) T
 obtain⟨t',g,J⟩:=C.stay i o k (by omega) (by omega) (jF q)
 rw[q]at g;cases g
 have e:=vp A (dJ K) (a7 ops.size) J
 have a:=dh.1 I o (da (i:=i) (by simpa using k))
 unfold ma at a
 rw[f]at a
 simp only[e]at a
 have U:=c
 unfold eB at c
 split at c
 ·rename_i r' h l V n m X S
  simp only[cz]at m
  rw[m]at a
  simp only at a
  split at c
  ·rename_i b L
   obtain⟨⟨s,u,z⟩,c⟩:=cc.1 c
   have d:b.arr=false:=by
    split at a
    ·rename_i N v
     rw[<-Iz C A B D F L (dJ K) (a7 _) N v]
     simpa using a
    ·cases a
   rw[if_neg (by simp[d])]at c
   simp only[aC]at c
   obtain⟨es',p,c⟩:=c
   injection c with Q R
   subst Q
   exact⟨ty,t,j,r',h,l,b,V,n,es',f,q,m,L,d,z,X,S,s,u,p,R.symm,O⟩
  ·cases c
 ·cases c
theorem rV{j:Nat}{o:Oper}(a:ops[j]?=some o){q:Ref}(h:turns sts j q):makes sts j q\/(cls E o=2\/cls E o=4) /\∃t,fW E o=some t/\fG (cm (sts j).tm t)=some q:=by
 by_cases d:cls E o=2
 ·cases hw:wanted ops (sts j).tm o with
  | none=>have:=A j o a;unfold evalOp at this;rw[hw]at this;cases this
  | some b=>
   cases b with
   | false=>
    have:=A j o a;unfold evalOp at this;rw[hw]at this
    simp only[aC]at this
    obtain⟨tm',_,e⟩:=this
    unfold turns at h
    rw[<-e]at h
    exact absurd rfl h
   | true=>
    obtain⟨ty,t,p,r,m,u,b,x,n,es',l,k,f,s,_,_,_,_,_,_,_,he,_⟩:=Ac C A B D F I a d hw
    refine .inr ⟨.inl d,t,k,?_⟩
    unfold turns at h
    rw[he,aa.aj]at h
    split at h
    ·rename_i e;subst e;rw[f];rfl
    ·exact absurd rfl h
 ·rcases(rW C A B a).2.2 d q h with c | ⟨c,g⟩
  ·exact .inl c
  ·exact .inr ⟨.inr c,g⟩
omit A D F I C B in
theorem CU{L:Nat->Bool}(f:iI ops L){i:Nat}{o:Oper}(l:ops[i]?=some o)(k:L i=false)(d : ∀e∈cw o,L e=true){j:Nat}{c:Oper}(b:ops[j]?=some c)
 (h:j<i->((bF ops.toList []).getD i 0).testBit j=true) (m:i<j->((bF ops.toList []).getD j 0).testBit i=true):(L j=true↔j<i):=by
 constructor
 ·intro g
  rcases re j i with a | rfl | a
  ·exact a
  ·rw[k]at g;cases g
  ·have:=k7 f j c b (λe n=>f j c g b e n) i (m a)
   rw[k]at this;cases this
 ·intro a
  exact k7 f i o l d j (h a)
omit D F I B in
include G in
theorem CT{L:Nat->Bool}(V:iI ops L){i:Nat}{o:Oper}(u:ops[i]?=some o)(S:L i=false)(z : ∀e∈cw o,L e=true)(d:cls E o=1\/cls E o=2){t:Tmp}(v:fW E o=some t){q:Ref}(x:fG (cm (sts i).tm t)=some q)
 {j:Nat} {l:Oper} (k:ops[j]?=some l) (c:cls E l=2\/cls E l=4) {t':Tmp} (m:fW E l=some t') (n:fG (cm (sts j).tm t')=some q):(L j=true↔j<i):=by
 have y:i<ops.size:=(dz.1 u).1
 have N:j<ops.size:=(dz.1 k).1
 obtain⟨t1,Q,s1⟩:=C.stay i o u (by omega) (by omega) (jF v)
 obtain⟨t2,R,s2⟩:=C.stay j l k (by omega) (by omega) (jF m)
 rw[v]at Q;cases Q
 rw[m]at R;cases R
 have T:=vp A (dJ y) (a7 ops.size) s1
 have W:=vp A (dJ N) (a7 ops.size) s2
 rw[<-T]at x
 rw[<-W]at n
 have U : ∀a b,fW E a=some t->fW E b=some t' ->¬(settled E ops a b=true):=by
  intro a b O J f
  unfold settled at f
  rw[O,J]at f
  simp only[iK,u4]at f
  have g:=dh.1 G
  rcases f with f | f
  ·have:=g _ f
   unfold qq at this
   simp only[x,n]at this
   simp at this
  ·have:=g _ f
   unfold qq at this
   simp only[x,n]at this
   simp at this
 have K : ∀a b,fW E a=some t'->fW E b=some t ->¬(settled E ops a b=true):=by
  intro a b O J f
  unfold settled at f
  rw[O,J]at f
  simp only[iK,u4]at f
  have g:=dh.1 G
  rcases f with f | f
  ·have:=g _ f
   unfold qq at this
   simp only[x,n]at this
   simp at this
  ·have:=g _ f
   unfold qq at this
   simp only[x,n]at this
   simp at this
 refine CU V u S z k (λp=>?_) (λp=>?_)
 ·by_cases s:px (cls E o) (cls E l)=true
  ·rcases C.meet i j o l u k p s (jF v) (jF m)with h | h
   ·exact h
   ·exact absurd h (U o l v m)
  ·refine C.must i j o l u k p ?_
   unfold iM blind
   rcases d with d | d<;>rcases c with c | c<;>rw[d,c]at s ⊢ <;> first | rfl | exact absurd rfl s
 ·by_cases s:px (cls E l) (cls E o)=true
  ·rcases C.meet j i l o k u p s (jF m) (jF v)with h | h
   ·exact h
   ·exact absurd h (K l o m v)
  ·refine C.must j i l o k u p ?_
   unfold iM blind
   rcases d with d | d<;>rcases c with c | c<;>rw[d,c]at s ⊢ <;> first | rfl | exact absurd rfl s
omit A D F I B in
theorem jW{L:Nat->Bool}(v:iI ops L){i:Nat}{o:Oper}(m:ops[i]?=some o)(s:L i=false)(n : ∀e∈cw o,L e=true)(t:3<=cls E o)
 {j:Nat} {d:Oper} (f:ops[j]?=some d) (l:blind E o=false\/cls E d≠2) (k:gY E o d=false/\gY E d o=false) (c:cls E d=2\/cls E d=4\/cls E o=4/\3<=cls E d):(L j=true↔j<i):=by
 have x:=qe E o
 have y:=qe E d
 have q:iM E o d=true/\iM E d o=true:=by
  unfold iM
  rw[k.1,k.2]
  have a:cls E o=3\/cls E o=4:=by omega
  rcases c with c | c | ⟨p,c⟩
  ·have u:=l.resolve_right (λh=>h c)
   rcases a with a | a<;>rw[a,c,u]<;>exact⟨rfl,rfl⟩
  ·rcases a with a | a<;>rw[a,c]<;>simp
  ·have b:cls E d=3\/cls E d=4:=by omega
   rcases b with b | b<;>rw[p,b]<;>simp
 exact CU v m s n f (λg=>C.must i j o d m f g q.1) (λg=>C.must j i d o f m g q.2)
end
end
section
section
variable{E:Env}{pc:FuncId->List AV->Option AV}{tc:lb->List AV->aa->bk}{nt dep:Nat}{ops:Array Oper}{sts:Nat->St}
variable(C:HL E ops)(A : ∀i o,ops[i]?=some o->evalOp E pc tc nt dep true ops o (sts i)=some (sts (i+1)))
variable{M:Mem}{ι:Map}{w:World}{ds:List Deferred}
structure Ea (E:Env) (ops:Array Oper) (sts:Nat->St) (M:Mem) (ι:Map) (w:World) (L:Nat->Bool) (M1:Mem) (ι1:Map) (g1:bD) (c:Nat) (w1:World):Prop where
 sim:cT M1 ι1 g1 w1
 fwd:kb M ι (sts 0).hp.get w M1 ι1 g1 w1
 le:c<=ops.size
 cut : ∀j o,j<c->ops[j]?=some o->3<=cls E o->L j=true
 hand : ∀q,ι1 q≠none->q.g<(sts c).hp.gen q.d q.t \/∃j,j<ops.size/\L j=true/\c<=j/\makes sts j q
 get : ∀q,∃n,n<=ops.size/\g1 q=(sts n).hp.get q /\∀j,j<ops.size->turns sts j q->(L j=true↔j<n)
structure Eb (E:Env) (nt:Nat) (ops:Array Oper) (sts:Nat->St) (M:Mem) (ι:Map) (w:World) (ds:List Deferred) (L:Nat->Bool) (a1:Act) (w1:World):Prop where
 closed:iI ops L
 defers:a1.defers=ds
 at_ : ∃M1 ι1 tm1 g1 c,TS ops sts L tm1/\TR M1 ι1 tm1 a1/\a1.tmps.size=nt/\Ea E ops sts M ι w L M1 ι1 g1 c w1
theorem ox{a b:Nat}{q:Ref}(h:a<=b)(c : ∀j,a<=j->j<b ->¬turns sts j q):(sts b).hp.get q=(sts a).hp.get q:=by
 induction b with
 | zero=>rw[rn.1 h]
 | succ b e=>
  rcases cr b a with f | d
  ·rw[show a=b+1 by omega]
  ·have:=c b d (iT b)
   unfold turns at this
   rw[kD.1 this]
   exact e d λj g k=>c j g (by omega)
theorem Ea.ye{L:Nat->Bool}{s:Mem}{f:Map}{l:bD}{c:Nat}{t:World}(h:Ea E ops sts M ι w L s f l c t){q:Ref}{i:Nat}(u:i<=ops.size)(k : ∀j,j<ops.size->turns sts j q->(L j=true↔j<i)):l q=(sts i).hp.get q:=by
 obtain⟨n,v,e,m⟩:=h.get q
 rw[e]
 rcases Nat.le_total n i with hle | hle
 ·exact(ox hle λj p g d=>by
   have a:=m j (by omega) d
   have b:=k j (by omega) d
   have:=a.1 (b.2 g)
   omega).symm
 ·exact ox hle λj p g d=>by
   have a:=m j (by omega) d
   have b:=k j (by omega) d
   have:=b.1 (a.2 g)
   omega
variable(B:ops.toList.all (s8 E (sts ops.size))=true)
include C A B
theorem pz{L:Nat->Bool}{v:Mem}{e:Map}{x:bD}{c:Nat}{J:World}(D:cT M ι (sts 0).hp.get w)(F:jA ι (sts 0).hp)(h:Ea E ops sts M ι w L v e x c J){i:Nat}(p:i<ops.size)(K:L i=false){q:Ref}
 (z:(sts i).hp.get q≠none) (y:e q≠none) {j:Nat} (b:j<ops.size) (g:makes sts j q):(L j=true↔j<i):=by
 constructor
 ·intro a
  rcases cr j i with f | s
  ·exact f
  ·have u:=yQ C A B D F (dJ p) q z
   have k:=jv C A B s (dJ b) q.d q.t
   have:=g.1
   omega
 ·intro f
  rcases h.hand q y with u | ⟨N,l,a,_,n⟩
  ·have m:j<c:=by
    rcases cr j c with k | k
    ·exact k
    ·have:=jv C A B k (dJ b) q.d q.t
     have:=g.1
     omega
   exact h.cut j _ m (ey b) (nq C A B (ey b) g)
  ·rw[p6 C A B b l g n];exact a
variable(D:cT M ι (sts 0).hp.get w)(F:jA ι (sts 0).hp)(G:(ji E ops).all (qq (sts ops.size).tm)=true)(I:ops.toList.all (ma (sts ops.size))=true)
include D F G I
theorem ue{L:Nat->Bool}(K:iI ops L){z:Mem}{f:Map}{s:bD}{c:Nat}{O:World}(h:Ea E ops sts M ι w L z f s c O){i:Nat}{o:Oper}(v:ops[i]?=some o)(p:L i=false)(n : ∀e∈cw o,L e=true)
 (l:cls E o=1\/cls E o=2) {t:Tmp} (x:fW E o=some t) {q:Ref} (N:fG (cm (sts i).tm t)=some q) (a:(sts i).hp.get q≠none) (J:f q≠none) :
 s q=(sts i).hp.get q /\∀j,j<ops.size->turns sts j q->(L j=true↔j<i):=by
 have b:i<ops.size:=(dz.1 v).1
 have key : ∀j,j<ops.size->turns sts j q->(L j=true↔j<i):=by
  intro j u y
  have d:=ey u
  rcases rV C A B D F I d y with hm | ⟨m,t',g,k⟩
  ·exact pz C A B D F h b p a J u hm
  ·exact CT C A G K v p n l x N d m g k
 exact⟨h.ye (dJ b) key,key⟩
theorem Bp(Lg : ∀f xs y,pc f xs=some y->ea E.P f xs y)(LG : ∀f xs H y H',tc f xs H=some (y,H')->dC E.P f xs H y H'){ro:Option Nat}{Q:Exit->Act->World->Prop}
 {L L':Nat->Bool} {i:Nat} {o:Oper} (ho:ops[i]?=some o) (hi:L i=false) (Kr : ∀e∈cw o,L e=true)
 (O : ∀j,L' j=true↔(L j=true\/j=i)) {a1:Act} {w1:World} (hI:Eb E nt ops sts M ι w ds L a1 w1) {K:Act->World->Prop} (hK : ∀a' w',Eb E nt ops sts M ι w ds L' a' w'->K a' w') :
 if Region.wanted o (yielded ops a1.tmps) then o.wpIn (FW ro) 0 E.P a1 w1 K Q else K (a1.put o.dst undef) w1:=by
 obtain⟨hc,K5,M1,Y,tm1,g1,c,KR,V,KQ,S⟩:=hI
 have N:i<ops.size:=(dz.1 ho).1
 have KY:iI ops L':=iI.next hc ho Kr O
 have Kz : ∀t∈o.looksAt ops,cm tm1 t=cm (sts i).tm t:=λt ht=>sj C.toRegB A hc ho hi Kr KR ht
 have KP:=nz Kz
 have Lo:=mA Kz
 have step:=A i o ho
 have LR:=qe E o
 have Ln : ∀(u:Value)(x:AV)(R:List AV)(w':World)(M':Mem)(Kp:Map),(sts (i+1)).hp=(sts i).hp->bl nt (sts i).tm o.dst x=some (sts (i+1)).tm->bl nt tm1 o.dst x=some R ->
  TR M' Kp R (a1.put o.dst u)->(a1.put o.dst u).tmps.size=nt->cT M' Kp g1 w'->kb M1 Y g1 w1 M' Kp g1 w'->(∀q,Kp q≠none->Y q≠none)->Eb E nt ops sts M ι w ds L' (a1.put o.dst u) w':=by
  intro u x R w' M' Kp Kt hx X LK hn KZ Ks LD
  refine⟨KY,(dv _ _ _).trans K5,M',Kp,R,g1,c,ko C.toRegB ho O hi KR hx X,LK,hn,KZ,S.fwd.trans Ks,S.le,λj oj hj s Ko=>(O j).2 (.inl (S.cut j oj hj s Ko)),λq hq=>?_,λq=>?_⟩
  ·rcases S.hand q (LD q hq)with h | ⟨j,h1,h2,h3,h4⟩
   ·exact .inl h
   ·exact .inr ⟨j,h1,(O j).2 (.inl h2),h3,h4⟩
  ·obtain⟨n,h1,h2,h3⟩:=S.get q
   refine⟨n,h1,h2,λj hj hT=>?_⟩
   have J:j≠i:=by intro e;subst e;exact hT (by rw[Kt])
   rw[<-h3 j hj hT,O j]
   simp[J]
 have KN : ∀k:Nat,Y { (⟨dep+1,0,(sts ops.size).hp.gen (dep+1) 0,0⟩:Ref)with k:=k}=none:=by
  intro k
  cases hq:Y { (⟨dep+1,0,(sts ops.size).hp.gen (dep+1) 0,0⟩:Ref)with k:=k} with
  | none=>rfl
  | some l=>
   exfalso
   rcases S.hand _ (by rw[hq];simp)with h | ⟨j,h1,_,_,h4⟩
   ·have:=jv C A B S.le (a7 _) (dep+1) 0
    simp only at h
    omega
   ·have:=jv C A B (show j+1<=ops.size from h1) (a7 _) (dep+1) 0
    have:=h4.2
    simp only at this
    omega
 have K1 : ∀ {x:AV} {tm':List AV},(sts (i+1)).hp=(sts i).hp->bl nt (sts i).tm o.dst x=some (sts (i+1)).tm ->
  bh E pc true g1 tm1 ⟨dep+1,0,(sts ops.size).hp.gen (dep+1) 0,0⟩ o=some (x,[])->o.wpIn (FW ro) 0 E.P a1 w1 K Q:=by
  intro x tm' Kt hx hq
  obtain⟨R,X⟩:=fh (tm1:=tm1) hx
  refine ml (E:=E) (o:=o) S.sim V rfl KN Lg (λh=>by cases h) hq ro K Q λu w' ⟨M',Kp,h1,h2,h3,h4⟩=>hK _ _ ?_
  rw[gk]at h2 h3
  obtain⟨h5,h6⟩:=(V.mono h3.mem h3.map).put KQ X h1
  refine Ln u x R w' M' Kp Kt hx X h5 h6 h2 h3 λq hq hn=>hq (h4 q hn (λk hk=>by simp at hk))
 have LN:wanted ops (sts i).tm o=some false->if Region.wanted o (yielded ops a1.tmps) then o.wpIn (FW ro) 0 E.P a1 w1 K Q else K (a1.put o.dst undef) w1:=by
  intro hw
  have KA:=hw
  rw[<-Lo]at KA
  rw[eb V KA]
  simp only[kF,if_false]
  unfold evalOp at step
  rw[hw]at step
  simp only[aC]at step
  obtain⟨tm',ht,he⟩:=step
  have hx:bl nt (sts i).tm o.dst AV.undef=some (sts (i+1)).tm:=by rw[<-he];exact ht
  obtain⟨R,X⟩:=fh (tm1:=tm1) hx
  obtain⟨h1,h2⟩:=V.put KQ X (u:=undef) (.v rfl)
  exact hK _ _ (Ln undef AV.undef R w1 M1 Y (by rw[<-he]) hx X h1 h2 S.sim kb.refl λ_ h=>h)
 have KT : ∀ {d:Nat} {x:AV} {bs:List ax},3<=cls E o->(sts (i+1)).hp=keyed ⟨dep,d,(sts i).hp.gen dep d,0⟩ 0 bs (sts i).hp->bl nt (sts i).tm o.dst x=some (sts (i+1)).tm ->
  bh E pc true g1 tm1 ⟨dep,d,(sts i).hp.gen dep d,0⟩ o=some (x,bs)->(∀k,Y { (⟨dep,d,(sts i).hp.gen dep d,0⟩:Ref)with k:=k}=none)->o.wpIn (FW ro) 0 E.P a1 w1 K Q:=by
  intro d x bs Z Kv hx Lf KI
  obtain⟨R,X⟩:=fh (tm1:=tm1) hx
  refine ml (E:=E) (o:=o) S.sim V rfl KI Lg (λh=>by cases h) Lf ro K Q λu w' ⟨M',Kp,h1,h2,h3,h4⟩=>hK _ _ ?_
  obtain⟨h5,h6⟩:=(V.mono h3.mem h3.map).put KQ X h1
  refine⟨KY,(dv _ _ _).trans K5,M',Kp,R,jJ g1 ⟨dep,d,(sts i).hp.gen dep d,0⟩ bs,c,ko C.toRegB ho O hi KR hx X,h5,h6,h2,S.fwd.trans h3,S.le,λj oj hj s Ko=>(O j).2 (.inl (S.cut j oj hj s Ko)),λq hq=>?_,λq=>?_⟩
  ·by_cases KW:Y q=none
   ·by_cases hk : ∃k,k<bs.length/\q = { (⟨dep,d,(sts i).hp.gen dep d,0⟩:Ref)with k:=k}
    ·obtain⟨k,hk,e⟩:=hk
     refine .inr ⟨i,N,(O i).2 (.inr rfl),?_,?_⟩
     ·rcases cr i c with U | U
      ·have:=S.cut i o U ho (by omega)
       rw[hi]at this;cases this
      ·exact U
     ·subst e
      refine⟨a7 _,?_⟩
      simp only
      rw[Kv,aa.fM,if_pos ⟨rfl,rfl,by intro e;rw[e]at hk;simp at hk⟩]
      exact iT _
    ·exact absurd (h4 q KW λk LQ e=>hk ⟨k,LQ,e⟩) hq
   ·rcases S.hand q KW with h | ⟨j,Lk,g2,g3,g4⟩
    ·exact .inl h
    ·exact .inr ⟨j,Lk,(O j).2 (.inl g2),g3,g4⟩
  ·by_cases hk:q.d=dep/\q.t=d/\q.g=(sts i).hp.gen dep d/\q.k<bs.length
   ·have La:makes sts i q:=by
     obtain⟨k1,k2,k3,k4⟩:=hk
     refine⟨by rw[k1,k2,k3];exact a7 _,?_⟩
     rw[Kv,aa.fM,if_pos ⟨k1,k2,by intro e;rw[e]at k4;simp at k4⟩,k3]
     exact iT _
    refine⟨i+1,N,?_,λj hj hT=>?_⟩
    ·rw[Kv,aa.fZ]
     unfold jJ
     rw[if_pos hk,if_pos hk]
    ·rw[O j]
     by_cases J:j=i
     ·subst J;simp
     ·have s:=ey hj
      have KH:turns sts i q:=by
       obtain⟨k1,k2,k3,k4⟩:=hk
       intro e
       have h5:(sts i).hp.get q≠none:=by
        rw[<-e,Kv,aa.fZ]
        unfold jJ
        rw[if_pos ⟨k1,k2,k3,k4⟩,bG k4]
        simp
       have:=yQ C A B D F (dJ N) q h5
       rw[k1,k2,k3]at this
       exact absurd this (od _)
      have K2 : ¬j<i:=by
       intro KE
       obtain⟨k1,k2,k3,k4⟩:=hk
       have Ku : ∀m,m<=i->(sts m).hp.get q≠none->False:=by
        intro m hm W
        have h6:=yQ C A B D F (ld hm (dJ N)) q W
        have h7:=jv C A B hm (dJ N) q.d q.t
        rw[k1,k2]at h6 h7
        rw[k3]at h6
        omega
       by_cases h8:(sts j).hp.get q=none
       ·exact Ku (j+1) KE (λh9=>hT (by rw[h8,h9]))
       ·exact Ku j (dJ KE) h8
      have:(L j=true↔j<i):=by
       obtain⟨n',k1,k2,k3⟩:=S.get q
       have h9:=k3 i N KH
       rw[hi]at h9
       have Lj:=k3 j hj hT
       rw[Lj]
       constructor
       ·intro KU
        have : ¬i<n':=λh=>by simpa using h9.2 h
        omega
       ·intro KU;exact absurd KU K2
      rw[this]
      constructor
      ·rintro(h | h)
       ·omega
       ·exact absurd h J
      ·intro h;left;omega
   ·obtain⟨n',k1,k2,k3⟩:=S.get q
    refine⟨n',k1,?_,λj hj hT=>?_⟩
    ·unfold jJ;rw[if_neg hk];exact k2
    ·have J:j≠i:=by
      intro e;subst e
      refine hT ?_
      rw[Kv,aa.fZ]
      unfold jJ
      rw[if_neg hk]
     rw[<-k3 j hj hT,O j]
     simp[J]
 cases KD:wanted ops (sts i).tm o with
 | none=>unfold evalOp at step;rw[KD]at step;cases step
 | some b=>
 cases b with
 | false=>exact LN KD
 | true=>
 have KA:=KD
 rw[<-Lo]at KA
 have LO:cls E o=0\/cls E o=1\/cls E o=2\/cls E o=3\/cls E o=4:=by omega
 rcases LO with Z | Z | Z | Z | Z
 ·
  rw[eb V KA]
  simp only[if_true]
  have hh:=sZ Z
  rcases gG step with ⟨hw,_,_,_⟩ | ⟨hw,x,bs,hq,tm',ht,he⟩ | K8
  ·rw[KD]at hw;cases hw
  ·obtain⟨Ld,Kx⟩:=mf hh hq
   subst Ld
   exact K1 (tm':=tm') (nM (.inl Z) step) (by rw[he];exact ht) (by rw[j3 KP];exact Kx _ _)
  ·rw[dp K8]at hh;cases hh
 ·
  rw[eb V KA]
  simp only[if_true]
  obtain⟨t,T,LM,K8⟩:=vW Z
  rcases gG step with ⟨hw,_,_,_⟩ | ⟨hw,x,bs,hq,tm',ht,he⟩ | KC
  ·rw[KD]at hw;cases hw
  ·obtain⟨Ld,Kx⟩:=xq T hq
   subst Ld
   refine K1 (tm':=tm') (nM (.inr Z) step) (by rw[he];exact ht) ?_
   rw[j3 KP]
   refine Kx g1 _ λq KB W=>?_
   refine(ue C A B D F G I hc S ho hi Kr (.inl Z) LM KB W ?_).1
   have Ly:cm tm1 t=cm (sts i).tm t:=by
    refine Kz t ?_
    unfold Oper.looksAt
    refine rH _ (List.mem_filterMap.2 ⟨.tmp t,?_,rfl⟩)
    unfold oD at T
    split at T
    ·rename_i x6;cases T;rw[x6];simp[Op.operands]
    ·rename_i x6;cases T;rw[x6];simp[Op.operands]
    ·rename_i x6;cases T;rw[x6];simp[Op.operands]
    ·rename_i x6
     split at T
     ·cases T
     ·cases T;rw[x6];simp[Op.operands]
    ·rename_i x6;cases T;rw[x6];simp[Op.operands]
    ·rename_i c x6
     split at T
     ·split at T
      ·rename_i KL
       cases T
       rw[x6]
       have:(Operand.tmp t)∈c.args:=by rw[<-Array.mem_toList_iff,KL];simp
       simp only[Op.operands,Call.operands]
       simp[this]
      ·cases T
     ·cases T
    ·cases T
   have hv:=V.at_ t
   rw[Ly]at hv
   revert KB hv
   generalize cm (sts i).tm t=v
   generalize a1.tmps.getD t undef=u
   intro KB hv
   cases hv with
   | ptr hr Lu=>cases KB;rw[hr];simp
   | aD hr=>cases KB;rw[hr];simp
   | dsl hr=>cases KB;rw[hr];simp
   | mp hr=>cases KB;rw[hr];simp
   | ch hr=>cases KB;rw[hr];simp
   | _=>cases KB
  ·rw[K8]at KC;cases KC
 ·
  rw[eb V KA]
  simp only[if_true]
  obtain⟨ty,t,xo,r,i',j',b,x,n,es',x6,hs,Lv,hb,Lm,LL,LI,hn,LA,LB,LC,he,hx⟩:=Ac C A B D F I ho Z KD
  have Lc : ∀y,y = .tmp t\/y=xo->ak tm1 y=ak (sts i).tm y:=by
   intro y hy
   refine KP y ?_
   rw[x6]
   rcases hy with rfl | rfl<;>simp[Op.operands]
  have Lb:=ao V (x := .tmp t) (y := .ptr r i' j') (by rw[Lc _ (.inl rfl)];simp only[ak,Lv])
  have LP:=ao V (x:=xo) (y:=x) (by rw[Lc _ (.inr rfl)];exact LI)
  have Le:Y r≠none:=by
   revert Lb
   generalize a1.eval (.tmp t)=u
   intro Lb
   cases Lb with | ptr hr Lu=>rw[hr];simp
  obtain⟨hg,Ls⟩:=ue C A B D F G I hc S ho hi Kr (.inr Z) hs (q:=r) (by rw[Lv];rfl) (by rw[hb];simp) Le
  rw[hb]at hg
  obtain⟨w',hr,KZ,Ks⟩:=wQ (P:=E.P) S.sim hn Lb LP hg LA LB LL Lm LC
  obtain⟨R,X⟩:=fh (tm1:=tm1) hx
  have Lh:cf E.P o a1 w1 λu w2=>u=undef/\w2=w':=cf.qX (by simp[execOp,x6,hr]) ⟨rfl,rfl⟩
  refine Lh ro K Q λu w2 ⟨e1,e2⟩=>hK _ _ ?_
  subst e1;subst e2
  obtain⟨h5,h6⟩:=(V.mono Ks.mem Ks.map).put KQ X (u:=undef) (.v rfl)
  refine⟨KY,(dv _ _ _).trans K5,M1,Y,R,fv g1 r { b with es:=es'},c,ko C.toRegB ho O hi KR hx X,h5,h6,KZ,S.fwd.trans Ks,S.le,λj oj hj s Ko=>(O j).2 (.inl (S.cut j oj hj s Ko)),λq hq=>?_,λq=>?_⟩
  ·rcases S.hand q hq with h | ⟨j,h1,h2,h3,h4⟩
   ·exact .inl h
   ·exact .inr ⟨j,h1,(O j).2 (.inl h2),h3,h4⟩
  ·by_cases K0:q=r
   ·subst K0
    refine⟨i+1,N,?_,λj hj hT=>?_⟩
    ·rw[he,aa.aj,if_pos rfl];unfold fv;rw[if_pos rfl]
    ·rw[O j]
     by_cases J:j=i
     ·subst J;simp
     ·rw[Ls j hj hT]
      constructor
      ·rintro(h | h)
       ·omega
       ·exact absurd h J
      ·intro h;left;omega
   ·obtain⟨n',h1,h2,h3⟩:=S.get q
    refine⟨n',h1,?_,λj hj hT=>?_⟩
    ·unfold fv;rw[if_neg K0];exact h2
    ·have J:j≠i:=by
      intro e;subst e
      refine hT ?_
      rw[he,aa.aj,if_neg K0]
     rw[<-h3 j hj hT,O j]
     simp[J]
 ·
  rw[eb V KA]
  simp only[if_true]
  obtain⟨hh,K8⟩:=nY Z
  rcases gG step with ⟨hw,_,_,_⟩ | ⟨hw,x,bs,hq,tm',ht,he⟩ | KC
  ·rw[KD]at hw;cases hw
  ·obtain⟨d,hd⟩:=fe.1 (C.made i o ho Z)
   rw[hd,bQ]at hq he
   have hx:bl nt (sts i).tm o.dst x=some (sts (i+1)).tm:=by rw[he];exact ht
   obtain⟨R,X⟩:=fh (tm1:=tm1) hx
   have Kv:(sts (i+1)).hp=keyed ⟨dep,d,(sts i).hp.gen dep d,0⟩ 0 bs (sts i).hp:=by rw[he]
   have KG:blind E o=false->pQ Y (sts i).hp.get g1:=by
    intro K7 q b hg W
    rw[<-hg]
    refine S.ye (dJ N) λj hj hT=>?_
    have s:=ey hj
    rcases rV C A B D F I s hT with hm | ⟨Ko,_⟩
    ·exact pz C A B D F S N hi (by rw[hg];simp) W hj hm
    ·exact jW C hc ho hi Kr (by omega) s (.inl K7) ⟨BA K7,gX (by omega)⟩ (by omega)
   rw[<-j3 KP]at hq
   have Lf:bh E pc true g1 tm1 ⟨dep,d,(sts i).hp.gen dep d,0⟩ o=some (x,bs):=by
    cases K7:blind E o with
    | true=>exact DX K7 hq
    | false=>exact qb S.sim (KG K7) V hq
   have KI : ∀k,Y { (⟨dep,d,(sts i).hp.gen dep d,0⟩:Ref)with k:=k}=none:=by
    intro k
    cases K4:Y { (⟨dep,d,(sts i).hp.gen dep d,0⟩:Ref)with k:=k} with
    | none=>rfl
    | some l=>
     exfalso
     rcases S.hand _ (by rw[K4];simp)with h | ⟨j,h1,h2,h3,h4⟩
     ·simp only at h
      rcases cr i c with U | U
      ·have:=S.cut i o U ho (by omega)
       rw[hi]at this;cases this
      ·have:=jv C A B U (dJ N) dep d
       omega
     ·have s:=ey h1
      have h5:=h4.1;have h6:=h4.2
      simp only at h5 h6
      rcases re j i with J | J | J
      ·have:=jv C A B (show j+1<=i from J) (dJ N) dep d
       omega
      ·subst J;rw[hi]at h2;cases h2
      ·have Ko:=nq C A B s h4
       have KJ:cls E ops[j]=3\/cls E ops[j]=4:=by have:=qe E ops[j];omega
       rcases KJ with K3 | KJ
       ·
        obtain⟨dj,KS⟩:=fe.1 (C.made j _ s K3)
        have Ky:=A j _ s
        have W:d≠dj:=by
         intro e
         have:=C.distinct i j o ops[j] d ho s hd (by rw[KS,e])
         omega
        rcases gG Ky with ⟨_,_,_,KK⟩ | ⟨_,_,Lz,_,_,_,KK⟩ | KF
        ·rw[KK]at h6;dsimp only at h6;omega
        ·rw[KK]at h6
         simp only[KS,bQ]at h6
         rw[aa.fM,if_neg (by intro Ll;exact W Ll.2.1)]at h6
         omega
        ·rw[(nY K3).2]at KF;cases KF
       ·cases KO:gY E o ops[j] with
        | true=>
         have W:=zn (E:=E) (lW.1 KO).1 hq
         have La:makes sts i { (⟨dep,d,(sts i).hp.gen dep d,0⟩:Ref)with k:=k}:=⟨a7 _,by
          simp only
          rw[Kv,aa.fM,if_pos ⟨rfl,rfl,W⟩]
          exact iT _⟩
         have:=p6 C A B h1 N h4 La
         omega
        | false=>
         have:=(jW C hc ho hi Kr (by omega) s (.inr (by omega)) ⟨KO,gX (by omega)⟩ (.inr (.inl KJ))).1 h2
         omega
   exact KT (by omega) Kv hx Lf KI
  ·rw[K8]at KC;cases KC
 ·
  have K6:blind E o=false:=by unfold blind;rw[Z];rfl
  cases Lq:((s9 o.op).isSome&&o.dst.isSome) with
  | true=>
   rw[eb V KA]
   simp only[if_true]
   obtain⟨Lp,Lx⟩:=lW.1 Lq
   obtain⟨t,ht⟩:=fe.1 Lp
   obtain⟨d,hd⟩:=fe.1 Lx
   have KG:pQ Y (sts i).hp.get g1:=by
    intro q b hg W
    rw[<-hg]
    refine S.ye (dJ N) λj hj hT=>?_
    have s:=ey hj
    rcases rV C A B D F I s hT with hm | ⟨Ko,_⟩
    ·exact pz C A B D F S N hi (by rw[hg];simp) W hj hm
    ·exact jW C hc ho hi Kr (by omega) s (.inl K6) ⟨gX (by omega),gX (by omega)⟩ (by omega)
   rcases A2 ht KD step with ⟨x,bs,tm',hq,hx,he⟩ | ⟨c',y,z,x,x6,Lw,KL,hA,hy,hx⟩
   ·rw[hd,bQ]at hq he
    have LJ:bl nt (sts i).tm o.dst x=some (sts (i+1)).tm:=by rw[he];exact hx
    have Kv:(sts (i+1)).hp=keyed ⟨dep,d,(sts i).hp.gen dep d,0⟩ 0 bs (sts i).hp:=by rw[he]
    rw[<-j3 KP]at hq
    refine KT (by omega) Kv LJ (qb S.sim KG V hq) λk=>?_
    cases K4:Y { (⟨dep,d,(sts i).hp.gen dep d,0⟩:Ref)with k:=k} with
    | none=>rfl
    | some l=>
     exfalso
     rcases S.hand _ (by rw[K4];simp)with h | ⟨j,h1,h2,h3,h4⟩
     ·simp only at h
      rcases cr i c with U | U
      ·have:=S.cut i o U ho (by omega)
       rw[hi]at this;cases this
      ·have:=jv C A B U (dJ N) dep d
       omega
     ·have s:=ey h1
      have h5:=h4.1;have h6:=h4.2
      simp only at h5 h6
      rcases re j i with J | J | J
      ·have:=jv C A B (show j+1<=i from J) (dJ N) dep d
       omega
      ·subst J;rw[hi]at h2;cases h2
      ·have Ko:=nq C A B s h4
       have KJ:cls E ops[j]=3\/cls E ops[j]=4:=by have:=qe E ops[j];omega
       rcases KJ with K3 | KJ
       ·obtain⟨dj,KS⟩:=fe.1 (C.made j _ s K3)
        have Ky:=A j _ s
        have W:d≠dj:=by
         intro e
         have:=C.distinct i j o ops[j] d ho s hd (by rw[KS,e])
         omega
        rcases gG Ky with ⟨_,_,_,KK⟩ | ⟨_,_,Lz,_,_,_,KK⟩ | KF
        ·rw[KK]at h6;dsimp only at h6;omega
        ·rw[KK]at h6
         simp only[KS,bQ]at h6
         rw[aa.fM,if_neg (by intro Ll;exact W Ll.2.1)]at h6
         omega
        ·rw[(nY K3).2]at KF;cases KF
       ·have:=(jW C hc ho hi Kr (by omega) s (.inr (by omega)) ⟨gX (by omega),gX (by omega)⟩ (.inr (.inl KJ))).1 h2
        omega
   ·
    have Li:c'.args.toList.mapM (ak tm1)=some [y,z]:=by
     rw[<-KL]
     refine mapM_congr λa ha=>KP a ?_
     rw[x6]
     have:a∈c'.args:=by simpa using ha
     simp[Op.operands,Call.operands,this]
    have K9:=fN V Li
    obtain⟨u,v,Lt⟩:=mM K9.1.symm
    rw[Lt]at K9
    have vy:=K9.2 0 y u rfl rfl
    have vz:=K9.2 1 z v rfl rfl
    have KX : ∀r',fG y=some r'->(sts i).hp.get r'≠none->makes sts i ⟨r'.d,r'.t,(sts i).hp.gen r'.d r'.t,0⟩:=by
     intro r' Kn W
     obtain⟨r2,b2,z2,es2,f2,e1,e2,e3,e4⟩:=ov hA
     rw[Kn]at e1;cases e1
     refine⟨a7 _,?_⟩
     simp only
     rw[e4,we (by rw[e2];rfl),if_pos ⟨rfl,rfl⟩]
     exact iT _
    have KV : ∀r',fG y=some r'->Y r'≠none:=by
     intro r' Kn
     revert vy Kn
     generalize y=v
     intro vy Kn
     cases vy with
     | ptr hr Lu=>cases Kn;rw[hr];simp
     | aD hr=>cases Kn;rw[hr];simp
     | dsl hr=>cases Kn;rw[hr];simp
     | mp hr=>cases Kn;rw[hr];simp
     | ch hr=>cases Kn;rw[hr];simp
     | _=>cases Kn
    obtain⟨r',b,k',e1,e2,K0,e3,u',w',Kp,Kn,LH,KZ,Ks,Lr⟩:=wD (P:=E.P) (ty:=o.type) (H:=(sts i).hp) S.sim vy vz (λr' Kn W=>by
     cases hb:(sts i).hp.get r' with
     | none=>exact absurd hb W
     | some b=>exact KG r' b hb (KV r' Kn)) (λe p hp=>uy KG vz hp) (λr' Kn W=>by
     cases K4:Y ⟨r'.d,r'.t,(sts i).hp.gen r'.d r'.t,0⟩ with
     | none=>rfl
     | some l=>
      exfalso
      rcases S.hand _ (by rw[K4];simp)with h | ⟨j,h1,h2,h3,h4⟩
      ·simp only at h
       rcases cr i c with U | U
       ·have:=S.cut i o U ho (by omega)
        rw[hi]at this;cases this
       ·have:=jv C A B U (dJ N) r'.d r'.t
        omega
      ·have:=p6 C A B h1 N h4 (KX r' Kn W)
       subst this
       rw[hi]at h2;cases h2) hA
    have La:=KX r' e1 (by rw[e2];simp)
    obtain⟨R,X⟩:=fh (tm1:=tm1) hx
    have Lh:cf E.P o a1 w1 λu2 w2=>u2=u'/\w2=w':=by
     refine cf.ef ?_ ⟨rfl,rfl⟩
     have Kt:c'.args.map a1.eval = #[u,v]:=by
      apply yr.1
      rw[Array.toList_map,Lt]
     simp only[execOp,x6,resolve,Lw,invoke,Sem.run_bind,Sem.run_pure,Result.andThen_ok,Kt]
     show(do pure (Next.value (<-Builtin.append_ c'.argTypes o.type #[u,v])):Sem Next).run E.P w1=_
     exact se Kn
    refine Lh ro K Q λu2 w2 ⟨f1,f2⟩=>hK _ _ ?_
    subst f1;subst f2
    obtain⟨h5,h6⟩:=(V.mono Ks.mem Ks.map).put KQ X LH
    refine⟨KY,(dv _ _ _).trans K5,M1,Kp,R,_,c,ko C.toRegB ho O hi KR hx X,h5,h6,KZ,S.fwd.trans Ks,S.le,λj oj hj s Ko=>(O j).2 (.inl (S.cut j oj hj s Ko)),λq hq=>?_,λq=>?_⟩
    ·by_cases Kq:q=⟨r'.d,r'.t,(sts i).hp.gen r'.d r'.t,0⟩
     ·refine .inr ⟨i,N,(O i).2 (.inr rfl),?_,by rw[Kq];exact La⟩
      rcases cr i c with U | U
      ·have:=S.cut i o U ho (by omega)
       rw[hi]at this;cases this
      ·exact U
     ·by_cases KW:Y q=none
      ·exact absurd (Lr q KW Kq) hq
      ·rcases S.hand q KW with h | ⟨j,Lk,g2,g3,g4⟩
       ·exact .inl h
       ·exact .inr ⟨j,Lk,(O j).2 (.inl g2),g3,g4⟩
    ·have KM:(sts (i+1)).hp.get q=fv (jy (sts i).hp.get r') ⟨r'.d,r'.t,(sts i).hp.gen r'.d r'.t,0⟩ k' q:=by rw[e3,get_append _ _ _ _ K0]
     by_cases Kq:q=⟨r'.d,r'.t,(sts i).hp.gen r'.d r'.t,0⟩
     ·refine⟨i+1,N,by rw[KM];unfold fv;rw[if_pos Kq,if_pos Kq],λj hj hT=>?_⟩
      rw[O j]
      by_cases J:j=i
      ·subst J;simp
      ·have KH:turns sts i q:=by
        intro e
        have h5:(sts i).hp.get q≠none:=by
         rw[<-e,KM];unfold fv;rw[if_pos Kq];simp
        have:=yQ C A B D F (dJ N) q h5
        rw[Kq]at this
        exact absurd this (od _)
       have K2 : ¬j<i:=by
        intro KE
        have Ku : ∀m,m<=i->(sts m).hp.get q≠none->False:=by
         intro m hm W
         have h6:=yQ C A B D F (ld hm (dJ N)) q W
         have h7:=jv C A B hm (dJ N) q.d q.t
         rw[Kq]at h6 h7
         simp only at h6 h7
         omega
        by_cases h8:(sts j).hp.get q=none
        ·exact Ku (j+1) KE (λh9=>hT (by rw[h8,h9]))
        ·exact Ku j (dJ KE) h8
       have:(L j=true↔j<i):=by
        obtain⟨n',k1,k2,k3⟩:=S.get q
        have h9:=k3 i N KH
        rw[hi]at h9
        have Lj:=k3 j hj hT
        rw[Lj]
        constructor
        ·intro KU
         have : ¬i<n':=λh=>by simpa using h9.2 h
         omega
        ·intro KU;exact absurd KU K2
       rw[this]
       constructor
       ·rintro(h | h)
        ·omega
        ·exact absurd h J
       ·intro h;left;omega
     ·by_cases Kw:q=r'
      ·refine⟨i+1,N,by rw[KM];unfold fv jy;rw[if_neg Kq,if_neg Kq,if_pos Kw,if_pos Kw],λj hj hT=>?_⟩
       rw[O j]
       by_cases J:j=i
       ·subst J;simp
       ·have s:=ey hj
        have:(L j=true↔j<i):=by
         rcases rV C A B D F I s hT with hm | ⟨Ko,_⟩
         ·exact pz C A B D F S N hi (by rw[Kw,e2];simp) (by rw[Kw];exact KV r' e1) hj hm
         ·exact jW C hc ho hi Kr (by omega) s (.inl K6) ⟨gX (by omega),gX (by omega)⟩ (by omega)
        rw[this]
        constructor
        ·rintro(h | h)
         ·omega
         ·exact absurd h J
        ·intro h;left;omega
      ·obtain⟨n',k1,k2,k3⟩:=S.get q
       refine⟨n',k1,?_,λj hj hT=>?_⟩
       ·unfold fv jy;rw[if_neg Kq,if_neg Kw];exact k2
       ·have J:j≠i:=by
         intro e;subst e
         refine hT ?_
         rw[KM];unfold fv jy;rw[if_neg Kq,if_neg Kw]
        rw[<-k3 j hj hT,O j]
        simp[J]
  | false=>
  have KO : ∀oj,gY E o oj=false/\gY E oj o=false:=λoj=>⟨gX (by omega),BB Lq⟩
  have Kx : ∀q j,j<ops.size->turns sts j q->(L j=true↔j<i):=by
   intro q j hj hT
   have s:=ey hj
   refine jW C hc ho hi Kr (by omega) s (.inl K6) (KO _) ?_
   rcases rV C A B D F I s hT with hm | ⟨Ko,_⟩
   ·exact .inr (.inr ⟨Z,nq C A B s hm⟩)
   ·omega
  have hg:g1=(sts i).hp.get:=funext λq=>S.ye (dJ N) (Kx q)
  have hD:jA Y (sts i).hp:=by
   intro q l hq
   rcases S.hand q (by rw[hq];simp)with h | ⟨j,h1,h2,h3,h4⟩
   ·rcases cr i c with U | U
    ·have:=S.cut i o U ho (by omega)
     rw[hi]at this;cases this
    ·exact o9 h (jv C A B U (dJ N) _ _)
   ·have s:=ey h1
    have J:=(jW C hc ho hi Kr (by omega) s (.inl K6) (KO _) (.inr (.inr ⟨Z,nq C A B s h4⟩))).1 h2
    exact o9 h4.2 (jv C A B (show j+1<=i from J) (dJ N) _ _)
  have hO:mU M1 Y ⟨tm1,(sts i).hp⟩ nt a1 w1:=⟨by rw[<-hg];exact S.sim,hD,V,KQ⟩
  obtain⟨x,R,hx,X,LF⟩:=uL Kz step
  refine qc (E:=E) (Q:=Q) hO Lg LG (λh=>by cases h) (.inl rfl) LF λa' w' ⟨⟨M',Kp,hO',Ks⟩,hd'⟩=>hK a' w' ⟨KY,hd'.trans K5,M',Kp,R,(sts (i+1)).hp.get,i+1,ko C.toRegB ho O hi KR hx X,hO'.tr,hO'.nt,hO'.sim,?_,N,?_,?_,?_⟩
  ·have:=S.fwd
   rw[hg]at this
   exact this.trans Ks
  ·intro j oj hj s Ko
   by_cases J:j=i
   ·exact(O j).2 (.inr J)
   ·exact(O j).2 (.inl ((jW C hc ho hi Kr (by omega) s (.inl K6) (KO _) (.inr (.inr ⟨Z,Ko⟩))).2 (by omega)))
  ·intro q hq
   cases Kq:Kp q with
   | none=>exact absurd Kq hq
   | some l=>exact .inl (hO'.dom q l Kq)
  ·intro q
   refine⟨i+1,N,rfl,λj hj hT=>?_⟩
   rw[O j]
   by_cases J:j=i
   ·subst J;simp
   ·rw[Kx q j hj hT]
    constructor
    ·rintro(h | h)
     ·omega
     ·exact absurd h J
    ·intro h;left;omega
omit D F G I in
theorem xt{L:Nat->Bool}(d : ∀i,i<ops.size->L i=true){a y:Act}{O:World}(p:a.defers=ds)(R:Eb E nt ops sts M ι w ds L y O):eD M ι (sts 0) a w nt (sts ops.size) y O:=by
 obtain⟨V,x,N,g,tm1,S,c,v,z,u,k⟩:=R
 have s : ∀t,cm tm1 t=cm (sts ops.size).tm t:=by
  intro t
  obtain⟨n,Q⟩:=v t
  obtain⟨T,J⟩:=vl C.toRegB A ops.size (a7 _) t
  by_cases e : ∃j,j<ops.size/\dQ ops j=some t
  ·obtain⟨j,b,f⟩:=e
   rw[n j b (d j b) f,T j b (by simpa using b) f]
  ·rw[Q λj b _ f=>e ⟨j,b,f⟩,J λj b _ f=>e ⟨j,b,f⟩]
 have m:TR N g (sts ops.size).tm y:=⟨λt=>by rw[<-s];exact z.at_ t⟩
 have K:S=(sts ops.size).hp.get:=funext λq=>k.ye (a7 _) λj b _=>⟨λ_=>b,λ_=>d j b⟩
 refine⟨⟨N,g,⟨by rw[<-K];exact k.sim,?_,m,u⟩,by rw[<-K];exact k.fwd⟩,x.trans p.symm⟩
 intro q l U
 rcases k.hand q (by rw[U];simp)with h | ⟨j,n,_,_,J⟩
 ·exact o9 h (jv C A B k.le (a7 _) _ _)
 ·exact o9 J.2 (jv C A B (show j+1<=ops.size from n) (a7 _) _ _)
theorem Fa(X : ∀f z y,pc f z=some y->ea E.P f z y)(W : ∀f z H y H',tc f z H=some (y,H')->dC E.P f z H y H'){ro:Option Nat}{a0:Act}(u:a0.defers=ds){Q:Exit->Act->World->Prop}
 (hQ : ∀T w',eD M ι (sts 0) a0 w nt (sts ops.size) T w'->Q .normal T w') : ∀(b:Nat)(a:Array Bool)(U:Act)(V:World),a.size=ops.size ->
 (List.range ops.size).countP (λi => !a.getD i false)<=b->Eb E nt ops sts M ι w ds (λi=>a.getD i false) U V->wpAnyIn (FW ro) 0 E.P .any ops Q b a U V:=by
 have oY : ∀ {a:Array Bool},a.size=ops.size->Region.ready .any ops a=[] ->∀i,i<ops.size->a.getD i false=true:=by
  intro a k h i
  induction i using Nat.strongRecOn with | ind i Y=>
  intro g
  cases N:a.getD i false with
  | true=>rfl
  | false=>
   exfalso
   have l:=ey g
   have Ko:a.getD i true=false:=by
    have:i<a.size:=by omega
    simpa [Array.getD,this] using N
   have:i∈Region.ready .any ops a:=by
    rw[mem_ready]
    refine⟨Ko,_,l,λe R hb=>?_⟩
    have J:e.on∈cw ops[i]:=by
     unfold cw
     exact gy.2 ⟨e,oh.2 ⟨by simpa using R,hb⟩,rfl⟩
    have c:=C.edges i _ l _ J
    exact Y e.on c (by omega)
   rw[h]at this
   cases this
 intro b
 induction b with
 | zero=>
  intro a U V k hf S
  have m : ∀i,i<ops.size->a.getD i false=true:=by
   intro i g
   cases N:a.getD i false with
   | true=>rfl
   | false=>
    exfalso
    have:0<(List.range ops.size).countP (λi => !a.getD i false):=List.countP_pos_iff.2 ⟨i,lT.2 g,by rw[N];rfl⟩
    omega
  refine⟨?_,hQ _ _ (xt C A B m u S)⟩
  refine Cb.2 λi g=>?_
  rw[mem_ready]at g
  obtain⟨t,o,l,_⟩:=g
  have c:i<ops.size:=(dz.1 l).1
  have O:=m i c
  have:i<a.size:=by omega
  simp[Array.getD,this]at t O
  rw[O]at t
  cases t
 | succ b Y=>
  intro a U V k hf S
  refine⟨λhr=>hQ _ _ (xt C A B (oY k hr) u S),λi g=>?_⟩
  rw[mem_ready]at g
  obtain⟨t,o,l,Kn⟩:=g
  have c:i<ops.size:=(dz.1 l).1
  have x:i<a.size:=by omega
  have v:a.getD i false=false:=by simpa [Array.getD,x] using t
  have q : ∀e∈cw o,(λi=>a.getD i false) e=true:=by
   intro e R
   unfold cw at R
   obtain⟨d,hd,rfl⟩:=gy.1 R
   obtain⟨O,h2⟩:=oh.1 hd
   exact Kn d (by simpa using O) h2
  have n : ∀j,(λj=>(a.setIfInBounds i true).getD j false) j=true↔((λj=>a.getD j false) j=true\/j=i):=by
   intro j
   simp only
   by_cases s:j=i
   ·subst s
    simp[x]
   ·rw[getD_set_ne false (jB s)]
    simp[s]
  have:=Bp (E:=E) (tc:=tc) (ro:=ro) (K:=wpAnyIn (FW ro) 0 E.P .any ops Q b (a.setIfInBounds i true)) (Q:=Q) C A B D F G I X W (L:=λi=>a.getD i false) l v q n S λT w' x6=>by
   refine Y _ T w' (by simp[k]) ?_ x6
   have:=qB (p:=λj => !a.getD j false) (p':=λj => !(a.setIfInBounds i true).getD j false) (i:=i) (λj Z=>by
    simp only[gb]at Z ⊢
    cases N:a.getD j false with
    | false=>rfl
    | true=>have:=(n j).2 (.inl N);simp only at this;rw[this]at Z;cases Z) (by simp only[v,rA]) (by have:=(n i).2 (.inr rfl);simp only at this ⊢;rw[this];rfl) (List.range ops.size) (lT.2 c)
   omega
  unfold wpOpIn
  rw[l]
  simp only
  split
  ·rename_i hw
   rw[if_pos hw]at this
   exact this
  ·rename_i hw
   rw[if_neg hw]at this
   exact⟨λ_ _=>trivial,this⟩
end
theorem xO{E:Env}(K:E.P.follows .mixedOrders=true){ops:Array Oper}(b:Dc E ops=true){pc:FuncId->List AV->Option AV}(v : ∀f g y,pc f g=some y->ea E.P f g y)
 {tc:lb->List AV->aa->bk} (n : ∀f g H y H',tc f g H=some (y,H')->dC E.P f g H y H') {nt dep id:Nat} {st st':St} {M:Mem} {ι:Map} {a:Act} {w:World} {ro:Option Nat} {Q:Exit->Act->World->Prop}
 (h:iW E pc tc nt dep true ops ops.toList st=some st') (G:jM E ops st'=true) (d:mU M ι st nt a w) (J : ∀x w',eD M ι st a w nt st' x w'->Q .normal x w'):(Code.region id ops true).wpIn (FW ro) 0 E.P Q a w:=by
 obtain⟨sts,N,z,O⟩:=sf ops.toList st st' h
 rw[oq]at z
 have C:=E7 b
 have A : ∀i o,ops[i]?=some o->evalOp E pc tc nt dep true ops o (sts i)=some (sts (i+1)):=λi o R=>O i o (by simpa using R)
 subst N
 subst z
 have s:(ji E ops).isEmpty=false:=by
  unfold Dc at b
  rw[bR]at b
  simpa using b.1
 unfold jM at G
 rw[s,Bool.false_or,bR,bR]at G
 refine wpIn_region_any K ?_
 have u:kb M ι (sts 0).hp.get w M ι (sts 0).hp.get { w with drawn:=w.drawn+1} :=
  ⟨rfl,rfl,rfl,a7 _,λ_ _ _=>rfl,λ_ _ _ h=>h,λ_ _ h=>h,λr k l h L => .inr ⟨r,k,l,h,L,rfl⟩,λ_ _ _ h => .inl h⟩
 have c : ∀i,(Array.replicate ops.size false).getD i false=false:=by
  intro i
  simp only[pb,yC]
  split<;>rfl
 refine Fa (tc:=tc) (M:=M) (ι:=ι) (w:=w) (a0:=a) C A G.2.2 d.sim d.dom G.1 G.2.1 v n rfl J ops.size _ a _ (by simp) ?_ ?_
 ·exact ld List.countP_le_length (by simp)
 ·refine⟨λi o p=>?_,rfl,M,ι,(sts 0).tm,(sts 0).hp.get,0,?_,d.tr,d.nt,d.sim.drew rfl,u,rq _,λj o e=>absurd e (Nat.not_lt_zero _),λq S=>?_,λq=>⟨0,rq _,rfl,λj _ _=>⟨λe=>?_,λe=>absurd e (Nat.not_lt_zero _)⟩⟩⟩
  ·exact absurd ((c i).symm.trans p) (by simp)
  ·exact λt=>⟨λi _ p=>absurd ((c i).symm.trans p) (by simp),λ_=>rfl⟩
  ·cases m:ι q with
   | none=>exact absurd m S
   | some l=>exact .inl (d.dom q l m)
  ·exact absurd ((c j).symm.trans e) (by simp)
end
end Go.Ab
namespace Go.Ab
open Go.ChangeShapes Go.WideShapes Go.RowKit
structure Kept (W W':World):Prop where
 os:W'.os=W.os
 output:W'.output=W.output
 size:W.heap.size<=W'.heap.size
 old : ∀b,b<W.heap.size->W'.heap[b]?=W.heap[b]?
theorem Kept.keptBut{W c:World}(h:Kept W c)(a:MemPlace->Prop):W.keptBut c a:=by
 refine⟨h.os,h.output,λi b=>?_⟩
 rw[h.old i b]
 have:=ey b
 rw[this]
 cases W.heap[i]<;>simp
theorem Kept.frozen{W b:World}(h:Kept W b){a:Addr}(c:a.block<W.heap.size):b.frozen? a=W.frozen? a:=by
 unfold World.frozen?
 rw[h.old _ c]
theorem Kept.same{W a:World}(h:Kept W a){p:MemPlace}(hp:p.block<W.heap.size):W.sameAt a p:=by
 cases p with
 | cell b off=>exact World.cell?_of_block (h.old b hp)
 | map b=>exact h.old b hp
section
variable{H:Type}{enc:TypeId × Value->H}{P:Program}
theorem vm{T:TypeId->Prop}(K:Kids P T)(N : ∀t e,T t->P.underlying t=some (.slice e)->0<P.cellsOf e){W g:World}(O:Kept W g){l:Nat->Bool}{a:Nat} : ∀ {b:List TypeId} {c:List Value} {ds:List (DataW H)} {ps:List MemPlace},(∀t∈b,T t) ->
 DataW.TrodAll enc P W a (λ_=>true) true b c ds ps->(∀p∈ps,l p.block=true)->DataW.TrodAll enc P g a l true b c ds ps:=by
 intro b c ds ps k h m
 have j:=h.respare K N k m
 have s:=h.lt
 clear h m k
 induction b generalizing c ds ps with
 | nil=>
  obtain⟨rfl,rfl,rfl⟩:=trodAll_nil j
  exact trodAll_mk0
 | cons t b y=>
  obtain⟨v,L,d,J,p,q,rfl,rfl,rfl,⟨n,z⟩,u⟩:=trodAll_cons j
  refine⟨p,q,⟨n,DataW.trod_carry n t _ _ z λx f=>O.same (s x (rH _ f))⟩,y u λx f=>s x (List.mem_append_right _ f),rfl⟩
theorem Bi{T:TypeId->Prop}(K:Kids P T)(hz : ∀t e,T t->P.underlying t=some (.slice e)->0<P.cellsOf e){f:Func}{s:ChangeSpec}{apart fresh a k:Bool}{W v:World}{args:Array Value}{ds gs:List (DataW H)}{g:List MemPlace}
 (hT : ∀t∈f.params.toList,T t) (L:s.vars=[]) (R:DataW.Whole enc P f.params.toList s.vars apart W args.toList ds gs g) (hs:s.fn H ds = { results:=[.lit (.bool true)],args:=ds})
 {S:TypeId} (U:f.resultTypes = #[S]) (Y:P.underlying S=some .bool) (O:Kept W v):s.post enc P f apart fresh a k W args (.bool true) v:=by
 have Q:=R
 obtain⟨p,q,Z,V,rfl,n,y⟩:=Q
 rw[L]at V
 obtain⟨rfl,rfl⟩:=trodVars_none V
 have z:=Z.lt
 have m:s.fn H (ds++[]) = { results:=[.lit (.bool true)],args:=ds}:=by rw[og];exact hs
 have h : ∀(b:Nat)(d:Nat->Bool)(X:Bool),DataW.TrodAll enc P v b d X f.resultTypes.toList ((Value.bool true).resultList f.resultTypes.size) (s.fn H (ds++[])).results []:=by
  intro b d X
  rw[U,m]
  exact trodAll_mk1 (shut_bool Y true)
 have c : ∀d:Nat->Bool,(∀x∈p,d x.block=true)->DataW.TrodAll enc P v 0 d true f.params.toList args.toList (s.fn H (ds++[])).args p:=by
  intro d N
  rw[m]
  exact vm K hz O hT Z N
 have l : ∀d:Nat->Bool,DataW.TrodVars enc P v d s.vars (s.fn H (ds++[])).vars []:=by
  intro d
  rw[L,m]
  rfl
 rw[og]at y n
 refine⟨ds,[],p++[],[],p,[],R,h _ _ _,c _ (λx J=>by simpa using z x J),l _,O.keptBut _,λ_=>?_⟩
 have j:=trodAll_append (c (λ_=>true) (λ_ _=>rfl)) (h 0 (λ_=>true) true)
 rw[og]at j
 refine⟨ok_one U rfl (okWide_bool_mk Y true),_,[],p++[],⟨p,[],j,(by rw[L];rfl),rfl,?_,?_⟩,λx J _=>J⟩
 ·intro b u hp
  rw[og]at hp
  rw[O.frozen (show(⟨b,u,none⟩:Addr).block<W.heap.size from z _ hp)]
  exact n b u hp
 ·intro ha
  rw[og]
  exact y ha
end
theorem zG{E:Env}{ok:Array Oper->Bool}(j:E.Ok ok){n:Nat}{f:FuncId}{c:List AV}(h:bM E (bo E n) f c=some (.v (.bool true))){W:World}{us:List Value}
 (k:fq (λb o=>W.cell? ⟨b,o,none⟩) bB c us):Calls E.P f us.toArray W λe d=>e = .returned (.bool true)/\Kept W d:=by
 refine((AK j h).2 _ W us (λ_ _ _ h=>h) k).mono λe d ⟨v,M',he,hend⟩=>?_
 obtain⟨ls,l,g,_⟩:=hend.res ⟨0,0,0,0⟩
 have a:ad ⟨0,0,0,0⟩ depth (.v (.bool true)) []=(.v (.bool true),[]):=lz _ depth 1 _ _ rfl
 rw[a]at g
 cases g
 exact⟨he,hend.os,hend.output,hend.size,hend.old⟩
def qz(E:Env)(l:List FuncId):Bool:=l.all λf=>match E.P.funcs[f]? with
 | some fn => !(fn.name == "runtime.NumGoroutine")&&(match fn.body with | some c=>codeOk (nA E) c | none=>true)
 | none=>false
def Jh(ops:Array Oper)(i:Nat):Nat:=match ops[i]? with
 | some o=>(match o.dst with | some d=>d | none=>0)
 | none=>0
def l9:List (Nat × Nat × Nat × List (Tmp × Tmp))->Array Oper->List (Tmp × Tmp)
 | [],_=>[]
 | (a,b,c,l) :: d,ops=>cond (Nat.beq b ops.size) (cond (Nat.beq a (Jh ops 0)) (cond (Nat.beq c (Jh ops (b - 1))) l (l9 d ops)) (l9 d ops)) (l9 d ops)
def A0(e:List (Nat × Nat × Nat))(o:Oper):Bool:=match o.op with
 | .call c=>(match c.callee with
  | .builtin .append=>(match o.dst,c.args.toList with
   | some d,[.tmp a,.tmp b]=>e.any λ(x,y,z)=>Nat.beq x d&&Nat.beq y a&&Nat.beq z b
   | _,_=>false)
  | .value (.tmp t)=>(match o.dst with
   | some d=>e.any λ(x,y,z)=>Nat.beq x d&&Nat.beq y t&&Nat.beq z 66666
   | none=>false)
  | .builtin .len=>(match o.dst with
   | some d=>e.any λ(x,y,z)=>Nat.beq x d&&Nat.beq y 0&&Nat.beq z 55555
   | none=>false)
  | _=>false)
 | .buildSlice _ n _=>(match o.dst with
  | some d=>e.any λ(x,y,z)=>Nat.beq x d&&Nat.beq y n&&Nat.beq z 77777
  | none=>false)
 | _=>false
def C2:Option Operand->Bool
 | some (.const (.slice none 0 0))=>true
 | _=>false
def GZ(o:Oper):Bool:=match o.op with
 | .call c=>(match c.callee with
  | .builtin .append=>C2 c.args[0]?
  | _=>false)
 | _=>false
def yP(a:List (Nat × Nat × Nat))(o:Oper):Bool:=match o.op with
 | .buildSlice _ n _=>(match o.dst with
  | some d=>a.any λ(x,y,z)=>Nat.beq x d&&Nat.beq y n&&Nat.beq z 88888
  | none=>false)
 | .call c=>(match o.dst with
  | some d=>a.any λ(x,y,z)=>Nat.beq x d&&((Nat.beq y 0&&Nat.beq z 88888)||(Nat.beq z 88889&&(match c.callee with
   | .value (.func g)=>Nat.beq g y
   | _=>false)))
  | none=>false)
 | _=>false
def rX(a:List (Nat × Nat × Nat))(o:Oper):Bool:=GZ o||A0 a o
def Fm(P:Program)(l bm kp:List FuncId)(strict:Oper->Bool)(apart:Array Oper->List (Tmp × Tmp))(cS:Oper->Bool:=λ_=>false):Env := { cS:=cS,P:=P,strict:=strict,apart:=apart,mode:=λf=>if bm.contains f then (if kp.contains f then 3 else 1) else if kp.contains f then 2 else 0,allowed:=λf=>l.contains f,spec:=λ_ _=>none}
def k6(P:Program)(l bm kp:List FuncId)(strict:Oper->Bool:=λ_=>false)(apart:Array Oper->List (Tmp × Tmp):=λ_=>[])(cS:Oper->Bool:=λ_=>false)(qJ:List (FuncId × List AV × AV):=[])(wide:Oper->Bool:=λ_=>false)(jt:FuncId->Option TypeId:=λ_=>none)(thrSpec:FuncId->List AV->aa->Option (AV × aa):=λ_ _ _=>none)(sm:yg:=zg):Env:=
 {cS:=cS,P:=P,strict:=strict,apart:=apart,mode:=λf=>if bm.contains f then (if kp.contains f then 3 else 1) else if kp.contains f then 2 else 0,allowed:=λf=>l.contains f,spec:=vH qJ,ok:=nA (Fm P l bm kp strict apart cS),wide:=wide,jt:=jt,thrSpec:=thrSpec,sm:=sm}
theorem D1 : ∀(n:Nat)(x y:AV),uR n x y=true->x=y:=by
 intro n
 induction n with
 | zero=>intro x y h;simp[uR]at h
 | succ n a=>
  intro x y h
  unfold uR at h
  split at h
  ·rw[wE h]
  ·simp only[bR]at h
   rw[jj a _ _ (eV h.1) h.2]
  ·simp only[bR,decide_eq_true_eq]at h
   rw[jj a _ _ (eV h.1.2) h.2,eV h.1.1.1,h.1.1.2]
  ·cases h
theorem Da{a b:List AV}(h:Db a b=true):a=b:=by
 unfold Db at h
 simp only[bR]at h
 exact jj (D1 8) _ _ (eV h.1) h.2
theorem E6{P:Program}{T:List (FuncId × List AV × AV)}(b : ∀p∈T,ea P p.1 p.2.1 p.2.2){f:FuncId}{args:List AV}{y:AV}(h:vH T f args=some y):ea P f args y:=by
 induction T with
 | nil=>cases h
 | cons p T c=>
  obtain⟨g,xs,z⟩:=p
  unfold vH at h
  split at h
  ·rename_i a
   simp only[bR]at a
   cases h
   have:=b _ (gu ..)
   simp only at this
   rw[<-eV a.1,<-Da a.2]
   exact this
  ·exact c (λp hp=>b p (gv _ hp)) h
theorem vQ{P:Program}{l bm kp:List FuncId}{strict:Oper->Bool}{apart:Array Oper->List (Tmp × Tmp)}{cS:Oper->Bool}{qJ:List (FuncId × List AV × AV)}{wide:Oper->Bool}{jt:FuncId->Option TypeId}{thrSpec:FuncId->List AV->aa->Option (AV × aa)}{sm:yg}(hspec : ∀p∈qJ,ea P p.1 p.2.1 p.2.2)(hm:P.follows .mixedOrders=true)(h0:qz (k6 P l bm kp strict apart cS) l=true)(hover : ∀f t,jt f=some t->lO P f t)(hthr : ∀f args H y H',thrSpec f args H=some (y,H')->dC P (.fn f) args H y H') :
 (k6 P l bm kp strict apart cS qJ wide jt thrSpec sm).Ok (nA (k6 P l bm kp strict apart cS qJ wide jt thrSpec sm)) where
 fns:=by
  intro f hf
  have h:qz (k6 P l bm kp strict apart cS qJ) l=true:=h0
  have hf':f∈l:=by simpa [k6] using hf
  have:=dh.1 h f hf'
  split at this
  ·rename_i fn hfn
   simp only[bR,gb]at this
   refine⟨fn,hfn,this.1,λc hc=>?_⟩
   have h2:=this.2
   rw[hc]at h2
   exact h2
  ·cases this
 specs:=λf args y h=>E6 hspec h
 same:=rfl
 overs:=hover
 thrs:=hthr
 draws:=λops hok _ hpc _ htc nt dep id st st' M ι a w ro Q hr G hO hQ=>by
  rcases rF.1 hok with h1 | h1
  ·exact xN hm h1 hpc htc hr hO hQ
  ·exact xO hm h1 hpc htc hr G hO hQ
theorem sJ{P:Program} : ∀p∈([]:List (FuncId × List AV × AV)),ea P p.1 p.2.1 p.2.2:=λp hp=>by simp at hp
def wa(P:Program)(f:Func):Bool:=match f.resultTypes.toList with
 | [t]=>(match P.underlying t with | some .bool=>true | _=>false)
 | _=>false
theorem zM{P:Program}{f:Func}(h:wa P f=true) : ∃a,f.resultTypes = #[a]/\P.underlying a=some .bool:=by
 unfold wa at h
 split at h
 ·rename_i t b
  split at h
  ·rename_i c
   exact⟨t,by rw[<-yr,b],c⟩
  ·cases h
 ·cases h
end Go.Ab
