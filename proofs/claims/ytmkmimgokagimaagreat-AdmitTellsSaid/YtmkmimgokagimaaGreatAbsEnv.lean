/-
  Regions where stores, and what looks at memory at one place, come in any order. No statement of a seat is proved here.
-/
import Derived.ReadAgain
import Derived.OpenShut
import Derived.ChangeSame
import Derived.RowKit
import Derived.JoinedOf
import Derived.Test.YtmkmimgokagimaaGreatAbsDrawn
set_option linter.unusedVariables false
set_option linter.unusedSimpArgs false
set_option linter.unusedSectionVars false
set_option linter.unnecessarySimpa false
namespace Go.Ab
section
structure adj (E:Env) (ops:Array Oper):Prop extends RegB ops where
 made : ∀(i:Nat)(o:Oper),ops[i]?=some o->cls E o=3->o.dst.isSome=true
 stay : ∀(i:Nat)(o:Oper),ops[i]?=some o->cls E o≠0->cls E o≠3->qQ E o=false ->∃t,mZ E o=some t /\∀k,ji ops k=some t->k<i
 must : ∀(i j:Nat)(oi oj:Oper),ops[i]?=some oi->ops[j]?=some oj->j<i->rq E oi oj=true->((dw ops.toList []).getD i 0).testBit j=true
 meet : ∀(i j:Nat)(oi oj:Oper),ops[i]?=some oi->ops[j]?=some oj->j<i->El (cls E oi) (cls E oj)=true->qQ E oi=false->qQ E oj=false->((dw ops.toList []).getD i 0).testBit j=true\/settled E ops oi oj=true
theorem FI(E:Env)(o:Oper):cls E o<=4:=by unfold cls;(repeat' split)<;>omega
theorem YN{E:Env}{ops:Array Oper}(h:Wu E ops=true):adj E ops:=by
 unfold Wu at h
 rw[aY]at h
 replace h:=h.2
 simp only[gy,yL]at h
 have one : ∀(i:Nat)(o:Oper),ops[i]?=some o->(eR o).all (· < i)=true/\RY E ops i o=true /\∀(j:Nat)(a:Oper),j<i->ops[j]?=some a->QU E ops (dw ops.toList []) o a i j=true:=by
  intro i o f
  have e:i<ops.size:=(iR.1 f).1
  have:=h i e
  rw[f]at this
  simp only[aY,gy,yL]at this
  refine⟨by simpa using this.1.1,this.1.2,λj a d p=>?_⟩
  have v:=this.2 j d
  rw[p]at v
  exact v
 have c : ∀(i j:Nat)(oi a:Oper),ops[i]?=some oi->ops[j]?=some a->j<i->zH ops (dw ops.toList []) oi a i j=true /\
  (!rq E oi a||((dw ops.toList []).getD i 0).testBit j)=true/\(!El (cls E oi) (cls E a)||qQ E oi||qQ E a||((dw ops.toList []).getD i 0).testBit j||settled E ops oi a)=true:=by
  intro i j oi a e d b
  have:=(one i oi e).2.2 j a b d
  unfold QU at this
  rw[aY,aY]at this
  exact⟨this.1.1,this.1.2,this.2⟩
 refine⟨So (λi o f=>(one i o f).1) λi j oi a e d b=>(c i j oi a e d b).1,?_,?_,?_,?_⟩
 ·intro i o f z
  have:=(one i o f).2.1
  unfold RY at this
  rw[z]at this
  exact this
 ·intro i o f J y m
  have:=(one i o f).2.1
  unfold RY at this
  have g:Qc ops i (mZ E o)=true:=by
   split at this
   ·exact absurd (by assumption) J
   ·exact absurd (by assumption) y
   ·rw[m,E1]at this;exact this
  unfold Qc at g
  split at g
  ·rename_i t K
   refine⟨t,K,λk l=>?_⟩
   simp only[gy,yL]at g
   have q:k<ops.size:=by
    unfold ji at l
    cases u:ops[k]? with
    | none=>rw[u]at l;cases l
    | some x=>exact(iR.1 u).1
   have:=g k q
   rw[l]at this
   simpa using this
  ·cases g
 ·intro i j oi a e d b n
  have:=(c i j oi a e d b).2.1
  rw[n]at this
  simpa using this
 ·intro i j oi a e d b n r1 r2
  have:=(c i j oi a e d b).2.2
  rw[n,r1,r2]at this
  simpa using this
def Made(H H':aa)(q:Ref):Prop:=H.gen q.d q.t<=q.g/\q.g<H'.gen q.d q.t
structure zP (H H':aa):Prop where
 gen : ∀d t,H.gen d t<=H'.gen d t
 born : ∀q,H'.get q≠none->H.get q≠none\/Made H H' q
 arr : ∀q b b',H.get q=some b->q.g<H.gen q.d q.t->H'.get q=some b'->b'.arr=b.arr
theorem zP.refl(H:aa):zP H H:=⟨λ_ _=>de _,λ_ h => .inl h,λq b b' h _ a=>by rw[h]at a;cases a;rfl⟩
theorem zP.keyed(H:aa)(d t:Nat)(m:List bw):zP H (keyed ⟨d,t,H.gen d t,0⟩ 0 m H):=by
 refine⟨λn t'=>?_,λq h=>?_,λq b b' h l a=>?_⟩
 ·rw[aa.mK];split
  ·rename_i c;obtain⟨rfl,rfl,_⟩:=c;exact EX _
  ·exact de _
 ·rw[aa.nm]at h
  unfold ui at h
  split at h
  ·rename_i c
   obtain⟨j,f,g,k⟩:=c
   refine .inr ⟨?_,?_⟩
   ·rw[j,f,g];exact de _
   ·rw[aa.mK,if_pos ⟨j,f,by intro e;rw[e]at k;simp at k⟩,g];exact sa _
  ·exact .inl h
 ·rw[aa.nm]at a
  unfold ui at a
  split at a
  ·rename_i c
   obtain⟨j,f,g,k⟩:=c
   rw[j,f,g]at l
   exact absurd l (Cz _)
  ·rw[h]at a;cases a;rfl
theorem Mp{g:cX}{R:List Ref}{q:Ref}{b b':bw}(h:g q=some b)(a:wV g R q=some b'):b'.arr=b.arr:=by
 unfold wV at a
 split at a
 ·rw[h]at a;simp at a;rw[<-a]
 ·rw[h]at a;cases a;rfl
theorem Ji{g:cX}{R:List Ref}{q:Ref}:wV g R q≠none->g q≠none:=by
 unfold wV
 split
 ·intro h e;rw[e]at h;exact h rfl
 ·exact id
theorem zP.put{H:aa}{R:List Ref}{r:Ref}{b:bw}{es:List AV}(c:(cH H R).get r=some b):zP H ((cH H R).put r (some { b with es})):=by
 refine⟨λd t=>?_,λq h=>?_,λq b1 b' h f a=>?_⟩
 ·rw[aa.np _ _ _ (by rw[c];rfl),aa.kL];exact de _
 ·rw[aa.get_put]at h
  split at h
  ·rename_i e;subst e;exact .inl (Ji (R:=R) (by rw[<-aa.eG,c];simp))
  ·exact .inl (Ji (R:=R) (by rw[<-aa.eG];exact h))
 ·rw[aa.get_put]at a
  split at a
  ·rename_i e;subst e
   cases a
   rw[aa.eG]at c
   exact(Mp h c:b.arr=b1.arr)
  ·rw[aa.eG]at a
   exact Mp h a
theorem M7{P:Program}{H H':aa}{t:TypeId}{a x:Option AV}{y:AV}(h:nS P H t a x=some (y,H')):zP H H':=by
 unfold nS at h
 split at h
 ·split at h
  ·rename_i r' i j q n _ b f
   obtain⟨⟨g,k,p⟩,h⟩:=fO.1 h
   split at h
   ·split at h
    ·rename_i u m
     split at h
     ·cases h
     ·rename_i d
      obtain⟨l,h⟩:=fO.1 h
      simp only[bN]at h
      obtain⟨c,e,h⟩:=h
      cases h
      exact zP.put (by rw[aa.eG];unfold wV;rw[if_neg d];exact f)
    ·cases h
   ·simp only[bN]at h
    obtain⟨c,e,h⟩:=h
    cases h
    exact zP.put (R:=[]) f
  ·cases h
 ·cases h
theorem CE{P:Program}{H H':aa}{t t':Option TypeId}{s x y:AV}(h:m6 P H t t' s x=some (y,H')) :
 ∃r b z es f,jK s=some r/\H.get r=some b/\b.arr=true/\H'=(⟨r.d,r.t,H.gen r.d r.t,0⟩,some ⟨z,es,true,f⟩) :: H.put r none:=by
 unfold m6 at h
 split at h
 ·cases h
 ·split at h
  ·cases h
  ·split at h
   ·split at h
    ·cases h
    ·split at h
     ·split at h
      ·rename_i r' c len b e
       obtain⟨⟨_,a,_⟩,h⟩:=fO.1 h
       cases h
       exact⟨_,b,_,_,_,rfl,e,a,rfl⟩
      ·cases h
     ·cases h
   ·cases h
theorem MI{H:aa}{r:Ref}{o:Option bw}(q:Ref):aa.get ((⟨r.d,r.t,H.gen r.d r.t,0⟩,o) :: H.put r none) q=if (⟨r.d,r.t,H.gen r.d r.t,0⟩:Ref)=q then o else if q=r then none else H.get q:=by
 simp only[aa.get,aa.get_put]
theorem MJ{H:aa}{r:Ref}{o:Option bw}(a:(H.get r).isSome=true)(d t:Nat):aa.gen ((⟨r.d,r.t,H.gen r.d r.t,0⟩,o) :: H.put r none) d t=if r.d=d/\r.t=t then H.gen d t+1 else H.gen d t:=by
 simp only[aa.gen]
 rw[aa.np _ _ _ a]
 split
 ·rename_i h;rw[h.1,h.2]
 ·rfl
theorem Lu{P:Program}{H H':aa}{t t':Option TypeId}{s x y:AV}(h:m6 P H t t' s x=some (y,H')):zP H H' /\∃r,jK s=some r /\∀q,H'.get q≠H.get q->Made H H' q\/q=r:=by
 obtain⟨r,b,z,es,f,l,p,k,rfl⟩:=CE h
 have j:(H.get r).isSome=true:=by rw[p];rfl
 have a : ∀q,(⟨r.d,r.t,H.gen r.d r.t,0⟩:Ref)=q->Made H ((⟨r.d,r.t,H.gen r.d r.t,0⟩,some ⟨z,es,true,f⟩) :: H.put r none) q:=by
  intro q e
  subst e
  refine⟨de _,?_⟩
  rw[MJ j,if_pos ⟨rfl,rfl⟩]
  exact sa _
 refine⟨⟨λd t=>?_,λq c=>?_,λq b1 b' n m g=>?_⟩,r,l,λq c=>?_⟩
 ·rw[MJ j];split<;>omega
 ·rw[MI]at c
  split at c
  ·rename_i e;exact .inr (a q e)
  ·split at c
   ·exact absurd rfl c
   ·exact .inl c
 ·rw[MI]at g
  split at g
  ·rename_i e
   subst e
   exact absurd m (Cz _)
  ·split at g
   ·cases g
   ·rw[n]at g;cases g;rfl
 ·rw[MI]at c
  split at c
  ·rename_i e;exact .inl (a q e)
  ·split at c
   ·rename_i e;exact .inr e
   ·exact absurd rfl c
def Seen(g a:cX)(v:AV):Prop :=∀q,jK v=some q->g q≠none->a q=g q
theorem Cf{g a:cX}{v:AV}(h:Seen g a v){q:Ref}(d:jK v=some q){b:bw}(c:g q=some b):a q=some b:=by rw[h q d (by rw[c];simp),c]
theorem IM{P:Program}{g f:cX}{t:TypeId}{v x:AV}{e:List bw}(h:uL P g t (some v)=some (x,e))(k:Seen g f v):e=[]/\uL P f t (some v)=some (x,e):=by
 unfold uL at h ⊢
 cases v<;>(try (simp at h;done))
 ·rename_i r i j
  cases c:dq P t<;>cases a:aH P t<;>rw[c,a]at h<;>(try (simp at h;done))
  simp only at h ⊢
  cases d:g r with
  | none=>rw[d]at h;simp at h
  | some b=>
   rw[d]at h
   rw[Cf k rfl d]
   exact⟨(sw h).2,h⟩
 ·cases c:dq P t<;>cases a:aH P t<;>rw[c,a]at h<;>(try (simp at h;done))
  exact⟨(sw h).2,h⟩
theorem AX{P:Program}{g m:cX}{t:TypeId}{v x:AV}{c:Option AV}{d:List bw}(h:ep P g t (some v) c=some (x,d))(q:Seen g m v):d=[]/\ep P m t (some v) c=some (x,d):=by
 unfold ep at h ⊢
 cases l:c.bind intOf with
 | none=>rw[l]at h;simp at h
 | some k=>
 rw[l]at h
 simp only at h ⊢
 cases he:dY P t with
 | some e=>
  rw[he]at h
  simp only at h ⊢
  cases a:aH P e with
  | none=>rw[a]at h;cases v<;>simp at h
  | some z=>
  rw[a]at h
  cases v<;>(try (simp at h;done))
  ·simp only at h ⊢
   exact⟨by obtain⟨_,h⟩:=fO.1 h;cases h;rfl,h⟩
  ·rename_i r n len cap
   simp only at h ⊢
   cases f:g r with
   | none=>rw[f]at h;simp at h
   | some b=>
    rw[f]at h
    rw[Cf q rfl f]
    exact⟨by obtain⟨_,h⟩:=fO.1 h;cases h;rfl,h⟩
 | none=>
  rw[he]at h
  simp only at h ⊢
  refine⟨?_,h⟩
  cases j:kP P t with
  | none=>rw[j]at h;simp at h
  | some p=>
  rw[j]at h
  cases a:aH P p.2 with
  | none=>simp only[a]at h;cases v<;>simp at h
  | some z=>
  simp only[a]at h
  cases v<;>(try (simp at h;done))
  ·obtain⟨_,h⟩:=fO.1 h;cases h;rfl
  ·obtain⟨_,h⟩:=fO.1 h;cases h;rfl
theorem Ga{P:Program}{g m:cX}{t:TypeId}{v x:AV}{k j d:Option (Option Int)}{a:List bw}(h:ja P g t (some v) k j d=some (x,a))(u:Seen g m v):a=[]/\ja P m t (some v) k j d=some (x,a):=by
 have nil : ∀ {c:Prop} [Decidable c] {o:Option (Nat × Nat × Option Nat)} {f:Nat × Nat × Option Nat->AV × List bw},(∀p,(f p).2=[])->(if c then o.map f else none)=some (x,a)->a=[]:=by
  intro c _ o f n h
  obtain⟨_,h⟩:=fO.1 h
  obtain⟨p,_,h⟩:=bN.1 h
  have:=n p
  rw[h]at this
  exact this
 unfold ja at h ⊢
 cases k<;>cases j<;>cases d<;>(try (simp at h;done))
 simp only at h ⊢
 cases v<;>(try (simp at h;done))
 ·rename_i y
  cases y<;>(try (simp at h;done))
  ·simp only at h ⊢
   exact⟨nil (λ_=>rfl) h,h⟩
  ·split at h
   ·rename_i e
    simp only[dT,AV.v.injEq,Value.slice.injEq]at e
    obtain⟨rfl,rfl,rfl⟩:=e
    exact⟨nil (λ_=>rfl) h,h⟩
   ·rename_i e;simp at e
   ·rename_i e;simp at e
   ·rename_i e;simp at e
   ·cases h
 ·simp only at h ⊢
  exact⟨nil (λ_=>rfl) h,h⟩
 ·rename_i r q len cap
  simp only at h ⊢
  cases l:g r with
  | none=>rw[l]at h;simp at h
  | some b=>
   rw[l]at h
   rw[Cf u rfl l]
   exact⟨nil (λ_=>rfl) h,h⟩
theorem Mt{g c:cX}{v:AV}{p:Nat × List AV}(h:cT g v=some p)(e:Seen g c v):cT c v=some p:=by
 unfold cT at h ⊢
 cases v<;>(try (simp at h;done))
 ·rename_i y
  cases y<;>first | exact h | (simp at h;done)
 ·exact h
 ·rename_i r d len cap
  simp only at h ⊢
  cases a:g r with
  | none=>rw[a]at h;simp at h
  | some b=>
   rw[a]at h
   rw[Cf e rfl a]
   exact h
theorem CJ{P:Program}{g m:cX}{r r':Ref}{d f:TypeId}{v x:AV}{k:List bw}(n:fS P f=false)(h:gB P g r d f (some v)=some (x,k))(t:Seen g m v) :
 k=[]/\gB P m r' d f (some v)=some (x,k):=by
 have other : ∀ {y:AV},y=v->(if fS P d&&isStr P f then
  match cT g y with
  | some (_,es)=>(es.mapM byteOf).map λl=>((AV.v (.string ⟨l.toArray⟩),[]):AV × List bw)
  | none=>none
  else if d == f&&fS P d then
   match y with
   | .cG r' _ _ _=>(match g r' with
    | some b=>if b.esz=1 then some (y,[]) else none
    | none=>none)
   | _=>none
  else none)=some (x,k)->k=[]/\(if fS P d&&isStr P f then
   match cT m y with
   | some (_,es)=>(es.mapM byteOf).map λl=>((AV.v (.string ⟨l.toArray⟩),[]):AV × List bw)
   | none=>none
  else if d == f&&fS P d then
   match y with
   | .cG r' _ _ _=>(match m r' with
    | some b=>if b.esz=1 then some (y,[]) else none
    | none=>none)
   | _=>none
  else none)=some (x,k):=by
  intro y e h
  split at h
  ·rename_i q
   rw[if_pos q]
   cases he:cT g y with
   | none=>rw[he]at h;simp at h
   | some p=>
    rw[he]at h
    rw[Mt he (e ▸ t)]
    refine⟨?_,h⟩
    obtain⟨_,_,h⟩:=bN.1 h
    cases h;rfl
  ·rename_i q
   split at h
   ·rename_i j
    simp only[aY,beq_iff_eq]at j
    rw[j.1,n]at j
    simp at j
   ·cases h
 unfold gB at h ⊢
 cases v
 case v y=>
  cases y
  case string s=>
   simp only[n,Ht,mr,if_false]at h ⊢
   exact⟨by obtain⟨_,h⟩:=fO.1 h;cases h;rfl,h⟩
  case slice a l c=>
   rcases a with _ | a
   ·rcases l with _ | l
    ·rcases c with _ | c
     ·exact⟨by obtain⟨_,h⟩:=fO.1 h;cases h;rfl,h⟩
     ·exact⟨(sw h).2,h⟩
    ·exact⟨(sw h).2,h⟩
   ·exact⟨(sw h).2,h⟩
  all_goals exact⟨(sw h).2,h⟩
 all_goals exact other rfl h
theorem E6{P:Program}{H H':aa}{d a:Nat}{t:TypeId}{n:Nat}{m:List (Nat × AV)}{x:AV}(h:kH P H ⟨d,a,H.gen d a,0⟩ t n (some m)=some (x,H')):zP H H' /\∀q,H'.get q≠H.get q->Made H H' q\/q∈ck H.get (m.map (·.2)):=by
 simp only[kH,bN]at h
 obtain⟨b,K,h⟩:=h
 injection h with z y
 subst y
 generalize J:ck H.get (m.map (·.2))=R
 have c : ∀q,aa.get ((⟨d,a,H.gen d a,0⟩,some b) :: cH H R) q=if (⟨d,a,H.gen d a,0⟩:Ref)=q then some b else wV H.get R q:=by
  intro q;simp only[aa.get,aa.eG]
 have j : ∀k t',aa.gen ((⟨d,a,H.gen d a,0⟩,some b) :: cH H R) k t'=if d=k/\a=t' then H.gen d a+1 else H.gen k t':=by
  intro k t';simp only[aa.gen,aa.kL]
 have f : ∀q,(⟨d,a,H.gen d a,0⟩:Ref)=q->Made H ((⟨d,a,H.gen d a,0⟩,some b) :: cH H R) q:=by
  intro q e
  subst e
  refine⟨de _,?_⟩
  rw[j,if_pos ⟨rfl,rfl⟩]
  exact sa _
 refine⟨⟨λk t'=>?_,λq g=>?_,λq b1 b' v u l=>?_⟩,λq g=>?_⟩
 ·rw[j];split
  ·rename_i e;rw[<-e.1,<-e.2];exact EX _
  ·exact de _
 ·rw[c]at g
  split at g
  ·rename_i e;exact .inr (f q e)
  ·exact .inl (Ji g)
 ·rw[c]at l
  split at l
  ·rename_i e;subst e;exact absurd u (Cz _)
  ·exact Mp v l
 ·rw[c]at g
  split at g
  ·rename_i e;exact .inl (f q e)
  ·unfold wV at g
   split at g
   ·rename_i p;exact .inr p
   ·exact absurd rfl g
theorem Ec{P:Program}{g c:cX}{t:TypeId}{v x:AV}{k:Option AV}{ok:Bool}{a:List bw}(h:ff P g t (some v) k ok=some (x,a))(l:Seen g c v):a=[]/\ff P c t (some v) k ok=some (x,a):=by
 unfold ff at h ⊢
 cases v<;>(try (simp at h;done))
 rename_i r
 cases e:J0 P t with
 | none=>rw[e]at h;simp at h
 | some p=>
 obtain⟨n,et⟩:=p
 cases j:k.bind gV with
 | none=>rw[e,j]at h;simp at h
 | some m=>
 rw[e,j]at h
 simp only at h ⊢
 cases hm:kn g r with
 | none=>rw[hm]at h;simp at h
 | some ents=>
 have d:kn c r=some ents:=by
  unfold kn at hm ⊢
  cases f:g r with
  | none=>rw[f]at hm;simp at hm
  | some b=>rw[f]at hm;rw[Cf l rfl f];exact hm
 rw[d]
 rw[hm]at h
 refine⟨?_,h⟩
 simp only at h
 split at h
 ·split at h
  ·obtain⟨_,_,h⟩:=bN.1 h;cases h;rfl
  ·obtain⟨_,_,h⟩:=bN.1 h;cases h;rfl
  ·cases h
 ·cases h
theorem Xb{E:Env}{pc:FuncId->List AV->Option AV}{g j:cX}{tm:List AV}{r:Ref}{o:Oper}(b:blind E o=true){x:AV}{e:List bw}(h:cz E pc true g tm r o=some (x,e)) :
 cz E pc true j tm r o=some (x,e):=by
 unfold blind at b
 replace b:=(yN.1 b).2
 split at b
 ·rename_i a
  unfold cz at h ⊢
  simp only[a]at h ⊢
  exact h
 ·rename_i a
  unfold cz at h ⊢
  simp only[a]at h ⊢
  exact h
 ·rename_i c a
  obtain⟨l,d⟩:=yN.1 b
  split at d
  ·rename_i f m
   have k:c.args.toList=[]:=by simpa using l
   unfold cz at h ⊢
   simp only[a,k,m,Ao,Hr,uF,aK,kJ,w9,ck,HB]at h ⊢
   exact h
  ·cases d
 ·cases b
theorem Q4{E:Env}{o:Oper}(h:Q5 E o=true):blind E o=true:=by
 unfold Q5 at h
 unfold blind
 obtain⟨c,b⟩:=yN.1 h
 rw[c,nX]
 split at b
 ·rename_i a;rw[a]
 ·rename_i a;rw[a]
 ·cases b
theorem TK{E:Env}{oi b:Oper}(h:blind E oi=false):pz E oi b=false:=by
 unfold pz
 cases a:Q5 E oi with
 | false=>rfl
 | true=>rw[Q4 a]at h;cases h
theorem py{E:Env}{oi a:Oper}(h:cls E oi≠3):pz E oi a=false:=by
 unfold pz Q5
 rw[beq_false_of_ne h]
 rfl
theorem TL{E:Env}{oi a:Oper}(h:((Jz a.op).isSome&&a.dst.isSome)=false):pz E oi a=false:=by
 unfold pz
 rw[h,Ht]
theorem Q3{E:Env}{pc:FuncId->List AV->Option AV}{g:cX}{tm:List AV}{r:Ref}{o:Oper}(b:Q5 E o=true){x:AV}{c:List bw}(h:cz E pc true g tm r o=some (x,c)):c≠[]:=by
 unfold Q5 at b
 replace b:=(yN.1 b).2
 split at b
 ·rename_i a
  unfold cz at h
  simp only[a]at h
  unfold yl at h
  split at h
  ·split at h
   ·cases h;simp
   ·cases h
  ·cases h
 ·rename_i a
  unfold cz at h
  simp only[a]at h
  cases h;simp
 ·cases b
theorem SG{E:Env}{pc:FuncId->List AV->Option AV}{tc:yD->List AV->aa->dz}{nt dep:Nat}{ops:Array Oper}{o:Oper}{st f:St}{t:Tmp}(a:Jz o.op=some t)(v:wanted ops st.tm o=some true)(h:evalOp E pc tc nt dep true ops o st=some f) :
 (∃x g tm',cz E pc true st.hp.get st.tm ⟨dep,o.dst.getD 0,st.hp.gen dep (o.dst.getD 0),0⟩ o=some (x,g)/\dt nt st.tm o.dst x=some tm'/\f=⟨tm',keyed ⟨dep,o.dst.getD 0,st.hp.gen dep (o.dst.getD 0),0⟩ 0 g st.hp⟩) \/
 ∃c y z x,o.op = .call c/\c.callee = .builtin .append/\c.args.toList.mapM (aK st.tm)=some [y,z]/\m6 E.P st.hp c.argTypes[0]? c.argTypes[1]? y z=some (x,f.hp)/\y=dJ st.tm t/\dt nt st.tm o.dst x=some f.tm:=by
 unfold evalOp at h
 rw[v]at h
 simp only at h
 split at h
 ·rename_i x g u
  simp only[bN]at h
  obtain⟨tm',k,rfl⟩:=h
  exact .inl ⟨x,g,tm',u,k,rfl⟩
 ·split at h
  ·cases h
  ·split at h
   ·rename_i x H d
    simp only[bN]at h
    obtain⟨tm',k,rfl⟩:=h
    refine .inr ?_
    unfold Jz at a
    split at a
    ·rename_i c m
     split at a
     ·rename_i p
      split at a
      ·rename_i t' rest b
       cases a
       unfold evalW at d
       simp only[m,p,b]at d
       cases hm:List.mapM (aK st.tm) (Operand.tmp t :: rest) with
       | none=>rw[hm]at d;simp at d
       | some args=>
        rw[hm]at d
        have j:=hm
        simp only[nY,aK,uF,vf,fN,iw]at hm
        obtain⟨l,J,e⟩:=hm
        simp at e
        subst e
        simp only at d
        split at d
        ·rename_i s y n q
         cases q
         exact⟨c,_,_,x,m,p,by rw[b];exact j,d,rfl,k⟩
        ·rename_i n q;cases n
        ·cases d
      ·cases a
     ·cases a
    ·cases a
   ·cases h
theorem look_nil{E:Env}{pc:FuncId->List AV->Option AV}{g:cX}{tm:List AV}{r:Ref}{o:Oper}{t:Tmp}(d:CN E.P o.op=some t){x:AV}{u:List bw}(h:cz E pc true g tm r o=some (x,u)) :
 u=[] /\∀f r',Seen g f (dJ tm t)->cz E pc true f tm r' o=some (x,u):=by
 unfold CN at d
 split at d
 ·rename_i ty t' a
  cases d
  unfold cz at h ⊢
  simp only[a]at h ⊢
  exact⟨(IM h (λ_ _ _=>rfl)).1,λf r' e=>(IM h e).2⟩
 ·rename_i ty t' T a
  cases d
  unfold cz at h ⊢
  simp only[a]at h ⊢
  exact⟨(AX h (λ_ _ _=>rfl)).1,λf r' e=>(AX h e).2⟩
 ·rename_i ty t' U S R a
  cases d
  unfold cz at h ⊢
  simp only[a,FT,Ht,cond_false]at h ⊢
  exact⟨(Ga h (λ_ _ _=>rfl)).1,λf r' e=>(Ga h e).2⟩
 ·rename_i L y t' a
  split at d
  ·cases d
  ·rename_i z
   cases d
   unfold cz at h ⊢
   simp only[a]at h ⊢
   have j:fS E.P y=false:=by simpa using z
   exact⟨(CJ (r':=r) j h (λ_ _ _=>rfl)).1,λf r' e=>(CJ j h e).2⟩
 ·rename_i ty t' k ok a
  cases d
  unfold cz at h ⊢
  simp only[a]at h ⊢
  exact⟨(Ec h (λ_ _ _=>rfl)).1,λf r' e=>(Ec h e).2⟩
 ·rename_i c a
  split at d
  ·rename_i O
   split at d
   ·rename_i t' l
    cases d
    unfold cz at h ⊢
    simp only[a,l,O,nY,Hr,aK,uF,vf,fN]at h ⊢
    cases K:dJ tm t with
    | mp q=>
     rw[K]at h
     simp only[cN]at h ⊢
     obtain⟨N,h⟩:=PY.1 h
     simp only[if_neg N]
     refine⟨?_,λf r' e=>?_⟩
     ·unfold xl at h
      split at h
      ·cases h;rfl
      ·cases h
     ·unfold xl at h ⊢
      split at h
      ·rename_i p ents Q m
       have v:kn f q=some ents:=by
        unfold kn at m ⊢
        cases J:g q with
        | none=>rw[J]at m;simp at m
        | some b=>rw[J]at m;rw[Cf e rfl J];exact m
       simp only[Q,v]
       exact h
      ·cases h
    | _=>
     rw[K]at h
     simp only[cN]at h ⊢
     refine⟨?_,λf r' e=>h⟩
     unfold J2 at h
     (repeat' split at h)<;>(try simp_all)<;>(try (obtain⟨_,_,_,h⟩:=h;exact h))<;>(try (obtain⟨n,_,h⟩:=iw.1 h;simp at h;exact h.2))
   ·cases d
  ·cases d
 ·cases d
end
section
section
variable{E:Env}{o:Oper}
theorem Js(h:cls E o=0):yC E o=false:=by
 unfold cls at h
 cases a:yC E o with
 | false=>rfl
 | true=>rw[a]at h;simp only[if_true]at h;(repeat' split at h)<;>omega
theorem Mx(h:cls E o=1) : ∃t,CN E.P o.op=some t/\mZ E o=some t/\jC E o=false:=by
 unfold cls at h
 split at h
 ·split at h
  ·cases h
  ·rename_i e
   split at h
   ·rename_i f
    obtain⟨t,b⟩:=gU.1 f
    refine⟨t,b,?_,?_⟩
    ·have:storeT o.op=none:=by simpa using e
     simp[mZ,this,b]
    ·unfold jC
     have:wOp E o.op=false/\Cv o.op=false:=by
      unfold CN at b
      split at b<;>(try (rename_i a;rw[a];exact⟨rfl,rfl⟩))
      ·rename_i c a
       split at b
       ·rename_i d
        rw[a]
        simp[wOp,Cv,d]
       ·cases b
      cases b
     rw[this.1,this.2];simp
   ·split at h<;>cases h
 ·cases h
theorem Si(h:cls E o=2) : ∃ty t x,o.op = .store ty (.tmp t) x/\mZ E o=some t:=by
 unfold cls at h
 split at h
 ·split at h
  ·rename_i d
   obtain⟨t,a⟩:=gU.1 d
   have c:=a
   unfold storeT at a
   split at a
   ·rename_i ty t' x b
    cases a
    exact⟨ty,t,x,b,by simp[mZ,c]⟩
   ·cases a
  ·(repeat' split at h)<;>cases h
 ·cases h
theorem Cm(h:cls E o=3):yC E o=true/\jC E o=false:=by
 unfold cls at h
 split at h
 ·rename_i a
  split at h
  ·cases h
  ·split at h
   ·cases h
   ·split at h
    ·cases h
    ·rename_i b;exact⟨a,by simpa using b⟩
 ·cases h
theorem O7(h:cls E o=4):mZ E o=if Cv o.op then bsT o.op else Ih o.op:=by
 unfold cls at h
 split at h
 ·split at h
  ·cases h
  ·rename_i b
   split at h
   ·cases h
   ·rename_i d
    have c:storeT o.op=none:=by simpa using b
    have a:CN E.P o.op=none:=by simpa using d
    simp[mZ,c,a]
 ·cases h
end
theorem NR{E:Env}{o:Oper}(h:qQ E o=true) : ∃c g,o.op = .call c/\c.callee = .value (.func g)/\E.mode g=2/\E.kq o=true/\E.strict o=false:=by
 unfold qQ at h
 rw[aY,aY]at h
 obtain⟨⟨e,d⟩,a⟩:=h
 split at a
 ·rename_i c b
  split at a
  ·rename_i g f
   exact⟨c,g,b,f,by simpa using a,e,by simpa using d⟩
  ·cases a
 ·cases a
theorem Ti{E:Env}{o:Oper}(h:qQ E o=true):cls E o=4/\mZ E o=none:=by
 obtain⟨c,g,a,b,hm,p,m⟩:=NR h
 have e:storeT o.op=none:=by rw[a];rfl
 have d:CN E.P o.op=none:=by rw[a];simp[CN,b]
 have n:kA o.op=true:=by rw[a];simp[kA,b]
 have f:jC E o=true:=by simp[jC,m,a,wOp,b,hm]
 have k:Ih o.op=none:=by rw[a];simp[Ih,Tx,Jz,b]
 have l:Cv o.op=false:=by rw[a];rfl
 refine⟨?_,?_⟩
 ·have j:yC E o=true:=gS f
  simp[cls,e,d,j,f]
 ·simp[mZ,e,d,k,l]
theorem tW{E:Env}{o:Oper}{t:Tmp}(h:mZ E o=some t):qQ E o=false:=by
 cases a:qQ E o with
 | false=>rfl
 | true=>rw[(Ti a).2]at h;cases h
theorem Wr{E:Env}{pc:FuncId->List AV->Option AV}{tc:yD->List AV->aa->dz}{H H':aa}{tm:List AV}{r:Ref}{o:Oper}{t:Tmp}(e:Tx o.op=some t){x:AV}(h:evalW E pc tc H tm r o=some (x,H')) :
 ∃q ents b,jK (dJ tm t)=some q/\kn H.get q=some ents/\H'=H.put q (some (bg b)):=by
 have upd : ∀ {ty:TypeId} {m:AV} {k v:Option AV} {y:AV} {H':aa},dP E.P H ty (some m) k v=some (y,H') ->∃q ents b,jK m=some q/\kn H.get q=some ents/\H'=H.put q (some (bg b)):=by
  intro ty m k v y H' h
  unfold dP at h
  split at h
  ·rename_i l et q k' g f c
   simp only[dT]at c
   subst c
   split at h
   ·rename_i j ents u d
    split at h
    ·split at h
     ·split at h
      ·cases h;exact⟨q,ents,_,rfl,d,rfl⟩
      ·cases h
     ·cases h;exact⟨q,ents,_,rfl,d,rfl⟩
     ·cases h
    ·cases h
   ·cases h
  ·cases h
 unfold Tx at e
 split at e
 ·rename_i a
  cases e
  unfold evalW at h
  simp only[a,aK]at h
  exact upd h
 ·rename_i a
  cases e
  unfold evalW at h
  simp only[a,aK]at h
  exact upd h
 ·rename_i ty t' k a
  cases e
  unfold evalW at h
  simp only[a,aK]at h
  unfold iY at h
  split at h
  ·rename_i l et q k' f c p
   split at h
   ·rename_i j ents u d
    split at h
    ·split at h
     ·split at h
      ·simp only[bN]at h
       obtain⟨v,_,h⟩:=h
       cases h
       simp only[dT]at c
       exact⟨q,ents,_,by rw[c];rfl,d,rfl⟩
      ·cases h
     ·simp only[bN]at h
      obtain⟨v,_,h⟩:=h
      cases h
      simp only[dT]at c
      exact⟨q,ents,_,by rw[c];rfl,d,rfl⟩
     ·cases h
    ·cases h
   ·cases h
  ·cases h
 ·rename_i k t' m g a
  cases e
  unfold evalW at h
  simp only[a,aK]at h
  unfold fR at h
  split at h
  ·rename_i q z n J f c p
   split at h
   ·rename_i ents d
    split at h
    ·split at h
     ·cases h
      simp only[dT]at f
      exact⟨q,ents,_,by rw[f];rfl,d,rfl⟩
     ·cases h
    ·cases h
   ·cases h
  ·cases h
 ·cases e
theorem Ty{g:cX}{r:Ref}{ents:List AV}(h:kn g r=some ents) : ∃b,g r=some b/\b.arr=false:=by
 unfold kn at h
 split at h
 ·rename_i e;exact⟨_,e,rfl⟩
 ·cases h
theorem zP.map{H:aa}{r:Ref}{ents a:List AV}(g:kn H.get r=some ents):zP H (H.put r (some (bg a))):=by
 obtain⟨k,c,f⟩:=Ty g
 refine⟨λd t=>?_,λq h=>?_,λq b1 b' h j b=>?_⟩
 ·rw[aa.np _ _ _ (by rw[c];rfl)];exact de _
 ·rw[aa.get_put]at h
  split at h
  ·rename_i e;subst e;exact .inl (by rw[c];simp)
  ·exact .inl h
 ·rw[aa.get_put]at b
  split at b
  ·rename_i e;subst e
   cases b
   rw[c]at h;cases h
   rw[f];rfl
  ·rw[h]at b;cases b;rfl
theorem Xg{E:Env}{pc:FuncId->List AV->Option AV}{tc:yD->List AV->aa->dz}{H H':aa}{tm:List AV}{r:Ref}{o:Oper}{t:Tmp}(a:Jz o.op=some t){x:AV}(h:evalW E pc tc H tm r o=some (x,H')) :
 ∃m j y z,jK y=jK (dJ tm t)/\m6 E.P H m j y z=some (x,H'):=by
 unfold Jz at a
 split at a
 ·rename_i c d
  split at a
  ·rename_i k
   split at a
   ·rename_i t' rest b
    cases a
    unfold evalW at h
    simp only[d,k,b]at h
    cases hm:List.mapM (aK tm) (Operand.tmp t :: rest) with
    | none=>rw[hm]at h;simp at h
    | some args=>
     rw[hm]at h
     simp only[nY,aK,uF,vf,fN,iw]at hm
     obtain⟨l,a,e⟩:=hm
     simp at e
     subst e
     simp only at h
     split at h
     ·rename_i s y f g
      cases g
      exact⟨_,_,_,_,rfl,h⟩
     ·rename_i f g;cases f
     ·cases h
   ·cases a
  ·cases a
 ·cases a
theorem P1{P:Program}{H H':aa}{t:TypeId}{a x:Option AV}{y:AV}(h:nS P H t a x=some (y,H'))(d k:Nat):H'.gen d k=H.gen d k:=by
 unfold nS at h
 split at h
 ·split at h
  ·rename_i r' i j v n _ b g
   obtain⟨⟨l,m,u⟩,h⟩:=fO.1 h
   split at h
   ·split at h
    ·rename_i z q
     split at h
     ·cases h
     ·rename_i e
      obtain⟨p,h⟩:=fO.1 h
      simp only[bN]at h
      obtain⟨c,f,h⟩:=h
      cases h
      rw[aa.np _ _ _ (by rw[aa.eG];unfold wV;rw[if_neg e,g];rfl),aa.kL]
    ·cases h
   ·simp only[bN]at h
    obtain⟨c,f,h⟩:=h
    cases h
    rw[aa.np _ _ _ (by rw[g];rfl)]
  ·cases h
 ·cases h
theorem Nr{P:Program}{M:Mem}{ι:Map}{g:cX}{w:World}(y:iv M ι g w){t:TypeId}{n:Nat}(V:aH P t=some n){r:Ref}{i j:Nat}{x:AV}{v e:Value}(K:VR M ι (.ptr r i j) v)(L:VR M ι x e)
 {b:bw} (z:g r=some b) (N:x.cells.length=n) (k:x.cells.all AV.one=true) (q:b.kq=false) (d:b.arr=false) {a:List AV} (m:iJ b.es i j x.cells=some a) :
 ∃w',(Instr.storeAt t v e).run P w = .ok () w'/\iv M ι (lU g r { b with es:=a}) w'/\vp M ι g w M ι (lU g r { b with es:=a}) w':=by
 cases K with | ptr u c=>
 rename_i l
 have h:=y.at u c z
 have f:=L.cells
 have p:e.cells.size=n:=by have:=f.1;simp at this;omega
 obtain⟨arr,T,fz,U,Q,J,R,S,O⟩:=HG y z u c q m k (us:=e.cells.toList) (by rw[bw.map,if_neg (by simp[d])];exact f)
 refine⟨bX w l.b (.cells (cw arr (i * b.esz+j) e.cells.toList) T fz),?_,S,O⟩
 rw[h.esz]
 exact BD V p U Q J R
section
variable{E:Env}{pc:FuncId->List AV->Option AV}{tc:yD->List AV->aa->dz}{nt dep:Nat}{ops:Array Oper}{sts:Nat->St}
variable(C:adj E ops)(A : ∀i o,ops[i]?=some o->evalOp E pc tc nt dep true ops o (sts i)=some (sts (i+1)))
abbrev makes(sts:Nat->St)(j:Nat)(q:Ref):Prop:=Made (sts j).hp (sts (j+1)).hp q
abbrev turns(sts:Nat->St)(j:Nat)(q:Ref):Prop:=(sts (j+1)).hp.get q≠(sts j).hp.get q
theorem X2{o:Oper}{st b:St}{t:Tmp}(a:bsT o.op=some t)(h:evalOp E pc tc nt dep true ops o st=some b) :
 b.hp=st.hp\/(∃f,b.hp=keyed ⟨dep,o.dst.getD 0,st.hp.gen dep (o.dst.getD 0),0⟩ 0 f st.hp) \/∃e n i x,kH E.P st.hp ⟨dep,o.dst.getD 0,st.hp.gen dep (o.dst.getD 0),0⟩ e n (some [(i,dJ st.tm t)])=some (x,b.hp):=by
 unfold evalOp at h
 split at h
 ·cases h
 ·simp only[bN]at h
  obtain⟨tm',g,rfl⟩:=h
  exact .inl rfl
 ·split at h
  ·rename_i x f k
   simp only[bN]at h
   obtain⟨tm',g,rfl⟩:=h
   exact .inr (.inl ⟨f,rfl⟩)
  ·split at h
   ·cases h
   ·split at h
    ·rename_i x H c
     simp only[bN]at h
     obtain⟨tm',g,rfl⟩:=h
     unfold bsT at a
     split at a
     ·rename_i e n ps j
      split at a
      ·rename_i i t' d
       cases a
       unfold evalW at c
       simp only[j,d]at c
       exact .inr (.inr ⟨e,n,i,x,c⟩)
      ·cases a
     ·cases a
    ·cases h
theorem Cb{o:Oper}{st c:St}(a:cls E o=0\/cls E o=1)(h:evalOp E pc tc nt dep true ops o st=some c):c.hp=st.hp:=by
 rcases oZ h with ⟨_,tm',d,he⟩ | ⟨_,x,f,e,tm',d,he⟩ | b
 ·rw[he]
 ·rw[he]
  rcases a with a | a
  ·rw[(zl (Js a) e).1];rfl
  ·obtain⟨t,d,_,_⟩:=Mx a
   rw[(look_nil d e).1];rfl
 ·rcases a with a | a
  ·have:=Js a;rw[gS b]at this;cases this
  ·obtain⟨t,d,_,hw⟩:=Mx a
   rw[hw]at b;cases b
theorem It{o:Oper}{st a:St}{ty:TypeId}{t:Tmp}{d:Operand}(b:o.op = .store ty (.tmp t) d)(h:evalOp E pc tc nt dep true ops o st=some a)(f:wanted ops st.tm o=some true) :
 ∃y,nS E.P st.hp ty (some (dJ st.tm t)) (aK st.tm d)=some (y,a.hp)/\dt nt st.tm o.dst y=some a.tm:=by
 unfold evalOp at h
 rw[f]at h
 have e:cz E pc true st.hp.get st.tm ⟨dep,o.dst.getD 0,st.hp.gen dep (o.dst.getD 0),0⟩ o=none:=by unfold cz;simp only[b]
 rw[e]at h
 simp only at h
 split at h
 ·cases h
 ·split at h
  ·rename_i x H c
   simp only[bN]at h
   obtain⟨tm',g,rfl⟩:=h
   unfold evalW at c
   simp only[b]at c
   exact⟨x,c,g⟩
  ·cases h
theorem step_map{o:Oper}{st a:St}{t:Tmp}(c:Tx o.op=some t)(h:evalOp E pc tc nt dep true ops o st=some a) :
 a.hp=st.hp\/(∃d,a.hp=keyed ⟨dep,o.dst.getD 0,st.hp.gen dep (o.dst.getD 0),0⟩ 0 d st.hp) \/∃q ents b,jK (dJ st.tm t)=some q/\kn st.hp.get q=some ents/\a.hp=st.hp.put q (some (bg b)):=by
 unfold evalOp at h
 split at h
 ·cases h
 ·simp only[bN]at h
  obtain⟨tm',e,rfl⟩:=h
  exact .inl rfl
 ·split at h
  ·rename_i x d g
   simp only[bN]at h
   obtain⟨tm',e,rfl⟩:=h
   exact .inr (.inl ⟨d,rfl⟩)
  ·split at h
   ·cases h
   ·split at h
    ·rename_i x H f
     simp only[bN]at h
     obtain⟨tm',e,rfl⟩:=h
     exact .inr (.inr (Wr c f))
    ·cases h
theorem SF{o:Oper}{st e:St}(j:qQ E o=true)(h:evalOp E pc tc nt dep true ops o st=some e):e.hp=st.hp:=by
 obtain⟨c,g,d,f,hm,k,n⟩:=NR j
 unfold evalOp at h
 split at h
 ·cases h
 ·simp only[bN]at h
  obtain⟨tm',l,rfl⟩:=h
  rfl
 ·split at h
  ·rename_i x m b
   exfalso
   unfold cz at b
   simp only[d,f]at b
   split at b
   ·cases b
   ·simp only[Ao,aK,kJ,hm,if_true,FV]at b
    cases b
  ·split at h
   ·cases h
   ·split at h
    ·rename_i x H a
     simp only[bN]at h
     obtain⟨tm',l,rfl⟩:=h
     unfold evalW at a
     simp only[d,f]at a
     split at a
     ·cases a
     ·rw[k]at a
      cases hw:nC E pc tc st.hp ⟨dep,o.dst.getD 0,st.hp.gen dep (o.dst.getD 0),0⟩ (aK st.tm (.func g)) _ with
      | none=>rw[hw]at a;simp[re]at a
      | some p=>
       obtain⟨y,H'⟩:=p
       rw[hw]at a
       unfold re at a
       simp only at a
       split at a
       ·cases a;rfl
       ·cases a
    ·cases h
theorem UU{o:Oper}{st a:St}{t:Tmp}(b:Jz o.op=some t)(h:evalOp E pc tc nt dep true ops o st=some a) :
 a.hp=st.hp\/(∃e,a.hp=keyed ⟨dep,o.dst.getD 0,st.hp.gen dep (o.dst.getD 0),0⟩ 0 e st.hp) \/∃d c y z x,jK y=jK (dJ st.tm t)/\m6 E.P st.hp d c y z=some (x,a.hp):=by
 unfold evalOp at h
 split at h
 ·cases h
 ·simp only[bN]at h
  obtain⟨tm',f,rfl⟩:=h
  exact .inl rfl
 ·split at h
  ·rename_i x e l
   simp only[bN]at h
   obtain⟨tm',f,rfl⟩:=h
   exact .inr (.inl ⟨e,rfl⟩)
  ·split at h
   ·cases h
   ·split at h
    ·rename_i x H j
     simp only[bN]at h
     obtain⟨tm',f,rfl⟩:=h
     obtain⟨d,c,y,z,k,g⟩:=Xg b j
     exact .inr (.inr ⟨d,c,y,z,x,k,g⟩)
    ·cases h
theorem I6{H:aa}{d t:Nat}{f:List bw}{q:Ref}(h:(keyed ⟨d,t,H.gen d t,0⟩ 0 f H).get q≠H.get q):Made H (keyed ⟨d,t,H.gen d t,0⟩ 0 f H) q:=by
 rw[aa.nm]at h
 unfold ui at h
 split at h
 ·rename_i j
  obtain⟨b,a,c,g⟩:=j
  refine⟨?_,?_⟩
  ·rw[b,a,c];exact de _
  ·rw[aa.mK,if_pos ⟨b,a,by intro e;rw[e]at g;simp at g⟩,c];exact sa _
 ·exact absurd rfl h
include A in
theorem LJ{i n:Nat}(a:i<=n)(d:n<=ops.size){t:Tmp}(g : ∀k,ji ops k=some t->k<i):dJ (sts n).tm t=dJ (sts i).tm t:=by
 induction n with
 | zero=>rw[Ho.1 a]
 | succ n c=>
  rcases fE n i with h | h
  ·rw[show i=n+1 by omega]
  ·have b:=ku (show n<ops.size from d)
   obtain⟨x,f⟩:=Nt (A n _ b)
   rw[xg f,if_neg,c h (by omega)]
   intro e
   have:=g n (by simp[ji,b,e])
   omega
variable(B:ops.toList.all (Jy E (sts ops.size))=true)
include C A B
theorem Ip{i:Nat}{o:Oper}(R:ops[i]?=some o):zP (sts i).hp (sts (i+1)).hp/\(cls E o<3 ->∀d t,(sts (i+1)).hp.gen d t=(sts i).hp.gen d t) /\
 (cls E o≠2 ->∀q,turns sts i q->makes sts i q\/cls E o=4 /\∃t,mZ E o=some t/\jK (dJ (sts i).tm t)=some q):=by
 have h:=A i o R
 have hle:=FI E o
 have T:cls E o=0\/cls E o=1\/cls E o=2\/cls E o=3\/cls E o=4:=by omega
 have same:(sts (i+1)).hp=(sts i).hp->zP (sts i).hp (sts (i+1)).hp/\(cls E o<3 ->∀d t,(sts (i+1)).hp.gen d t=(sts i).hp.gen d t) /\
  (cls E o≠2 ->∀q,turns sts i q->makes sts i q\/cls E o=4 /\∃t,mZ E o=some t/\jK (dJ (sts i).tm t)=some q):=by
  intro e
  refine⟨by rw[e];exact zP.refl _,λ_ d t=>by rw[e],λ_ q f=>?_⟩
  unfold turns at f
  rw[e]at f
  exact absurd rfl f
 rcases T with c | c | c | c | c
 ·exact same (Cb (.inl c) h)
 ·exact same (Cb (.inr c) h)
 ·obtain⟨ty,t,x,S,hs⟩:=Si c
  cases K:wanted ops (sts i).tm o with
  | none=>unfold evalOp at h;rw[K]at h;cases h
  | some b=>
   cases b with
   | false=>
    unfold evalOp at h;rw[K]at h
    simp only[bN]at h
    obtain⟨tm',_,e⟩:=h
    exact same (by rw[<-e])
   | true=>
    obtain⟨y,hW,_⟩:=It S h K
    exact⟨M7 hW,λ_ d t=>P1 hW d t,λhn=>absurd c hn⟩
 ·have W:=(Cm c).2
  rcases oZ h with ⟨_,tm',m,he⟩ | ⟨_,x,l,f,tm',m,he⟩ | u
  ·exact same (by rw[he])
  ·have e:(sts (i+1)).hp=keyed ⟨dep,o.dst.getD 0,(sts i).hp.gen dep (o.dst.getD 0),0⟩ 0 l (sts i).hp:=by rw[he]
   refine⟨by rw[e];exact zP.keyed _ _ _ _,λp=>by omega,λ_ q f => .inl ?_⟩
   unfold turns at f
   unfold makes
   rw[e]at f ⊢
   exact I6 f
  ·rw[W]at u;cases u
 ·cases N:qQ E o with
  | true=>exact same (SF N h)
  | false=>
  obtain⟨t,m,X⟩:=C.stay i o R (by omega) (by omega) N
  have U : ∀l,(sts (i+1)).hp=keyed ⟨dep,o.dst.getD 0,(sts i).hp.gen dep (o.dst.getD 0),0⟩ 0 l (sts i).hp->zP (sts i).hp (sts (i+1)).hp/\(cls E o<3 ->∀d t,(sts (i+1)).hp.gen d t=(sts i).hp.gen d t) /\
   (cls E o≠2 ->∀q,turns sts i q->makes sts i q\/cls E o=4 /\∃t,mZ E o=some t/\jK (dJ (sts i).tm t)=some q):=by
   intro l e
   refine⟨by rw[e];exact zP.keyed _ _ _ _,λp=>by omega,λ_ q f => .inl ?_⟩
   unfold turns at f
   unfold makes
   rw[e]at f ⊢
   exact I6 f
  cases Q:Cv o.op with
  | false=>
   have j:Ih o.op=some t:=by rw[O7 c,Q]at m;simpa using m
   cases J:Tx o.op with
   | some t'=>
    have e':t'=t:=by unfold Ih at j;rw[J]at j;simpa using j
    subst e'
    rcases step_map J h with e | ⟨l,e⟩ | ⟨q,ents,Y,f,hm,e⟩
    ·exact same e
    ·exact U l e
    ·refine⟨by rw[e];exact zP.map hm,λp=>by omega,λ_ q' g => .inr ⟨c,t',m,?_⟩⟩
     unfold turns at g
     rw[e,aa.get_put]at g
     split at g
     ·rename_i e2;subst e2;exact f
     ·exact absurd rfl g
   | none=>
   have G:Jz o.op=some t:=by unfold Ih at j;rw[J]at j;exact j
   rcases UU G h with e | ⟨l,e⟩ | ⟨t1,t2,y,z,x,hy,V⟩
   ·exact same e
   ·exact U l e
   ·obtain⟨hm,r,hr,f⟩:=Lu V
    refine⟨hm,λp=>by omega,λ_ q g=>?_⟩
    rcases f q g with k | k
    ·exact .inl k
    ·subst k;exact .inr ⟨c,t,m,by rw[<-hy];exact hr⟩
  | true=>
   have O:bsT o.op=some t:=by rw[O7 c,Q]at m;simpa using m
   rcases X2 O h with e | ⟨l,e⟩ | ⟨t1,n,i',x,V⟩
   ·exact same e
   ·exact U l e
   ·obtain⟨hm,f⟩:=E6 V
    refine⟨hm,λp=>by omega,λ_ q g=>?_⟩
    rcases f q g with k | k
    ·exact .inl k
    ·refine .inr ⟨c,t,m,?_⟩
     have hfr:(E.kq o&&Cv o.op)=true:=by
      have K:jC E o=true:=by
       unfold cls at c
       split at c
       ·split at c
        ·cases c
        ·split at c
         ·cases c
         ·split at c
          ·assumption
          ·cases c
       ·cases c
      unfold jC at K
      rcases HF.1 K with L | L
      ·exfalso
       replace L:=(yN.1 L).2
       unfold Cv at Q
       split at Q
       ·rename_i Z;rw[Z]at L;cases L
       ·cases Q
      ·exact L
     have hi:i<ops.size:=(iR.1 R).1
     have a:=gy.1 B o (fU (i:=i) (by simpa using R))
     unfold Jy at a
     rw[hfr,O]at a
     simp only[FT,E1]at a
     rw[LJ A (iQ hi) (de ops.size) X]at a
     simp only[uC,Lf,ck,AP,HB,uE]at k
     revert a k
     generalize dJ (sts i).tm t=v
     intro a k
     cases v with
     | cG r off len cap=>simp only[ao,depth,vS]at k;rw[k];rfl
     | v y=>simp[ao,depth]at k
     | _=>cases a
theorem tF{i n:Nat}(a:i<=n)(c:n<=ops.size)(d t:Nat):(sts i).hp.gen d t<=(sts n).hp.gen d t:=by
 induction n with
 | zero=>rw[Ho.1 a];exact de _
 | succ n b=>
  rcases fE n i with h | h
  ·rw[show i=n+1 by omega];exact de _
  ·exact Cy (b h (by omega)) ((Ip C A B (ku (show n<ops.size from c))).1.gen d t)
theorem P9{M:Mem}{ι:Map}{w:World}(F:iv M ι (sts 0).hp.get w)(D:vM ι (sts 0).hp){n:Nat}(f:n<=ops.size) : ∀q,(sts n).hp.get q≠none->q.g<(sts n).hp.gen q.d q.t:=by
 induction n with
 | zero=>
  intro q h
  cases b:(sts 0).hp.get q with
  | none=>exact absurd b h
  | some k=>obtain⟨l,j,_⟩:=F.live q k b;exact D q l j
 | succ n e=>
  intro q h
  have c:=(Ip C A B (ku (show n<ops.size from f))).1
  rcases c.born q h with a | a
  ·exact FX (e (by omega) q a) (c.gen _ _)
  ·exact a.2
theorem age{M:Mem}{ι:Map}{w:World}(F:iv M ι (sts 0).hp.get w)(D:vM ι (sts 0).hp){i:Nat}{r:Ref}{b:bw}(c:(sts i).hp.get r=some b){n:Nat}(g:i<=n)(m:n<=ops.size) : ∀b',(sts n).hp.get r=some b'->b'.arr=b.arr:=by
 induction n with
 | zero=>intro b' h;rw[Ho.1 g]at c;rw[c]at h;cases h;rfl
 | succ n l=>
  intro b' h
  rcases fE n i with p | a
  ·rw[show i=n+1 by omega]at c;rw[c]at h;cases h;rfl
  ·have j:=(Ip C A B (ku (show n<ops.size from m))).1
   rcases j.born r (by rw[h];simp)with e | e
   ·cases f:(sts n).hp.get r with
    | none=>exact absurd f e
    | some k=>rw[j.arr r k b' f (P9 C A B F D (by omega) r e) h];exact l a (by omega) k f
   ·have u:=P9 C A B F D (show i<=ops.size by omega) r (by rw[c];simp)
    have q:=tF C A B a (by omega) r.d r.t
    have:=e.1
    omega
theorem Fu{j b:Nat}{q:Ref}(f:j<ops.size)(c:b<ops.size)(h:makes sts j q)(e:makes sts b q):j=b:=by
 rcases Km j b with a | rfl | a
 ·have:=tF C A B (show j+1<=b from a) (iQ c) q.d q.t
  have:=h.2;have:=e.1
  omega
 ·rfl
 ·have:=tF C A B (show b+1<=j from a) (iQ f) q.d q.t
  have:=e.2;have:=h.1
  omega
theorem BK{j:Nat}{q:Ref}{o:Oper}(c:ops[j]?=some o)(h:makes sts j q):3<=cls E o:=by
 rcases fE (cls E o) 3 with a | b
 ·have:=(Ip C A B c).2.1 a q.d q.t
  have f:=h.1;have e:=h.2
  omega
 ·exact b
variable{M:Mem}{ι:Map}{w:World}
variable(F:iv M ι (sts 0).hp.get w)(D:vM ι (sts 0).hp)(G:(sQ E ops).all (F9 (sts ops.size).tm)=true)(I:ops.toList.all (ze (sts ops.size))=true)
include F D I
theorem RC{i:Nat}{o:Oper}(j:ops[i]?=some o)(R:cls E o=2)(W:wanted ops (sts i).tm o=some true) :
 ∃ty t l r k m b x n d,o.op = .store ty (.tmp t) l/\mZ E o=some t/\dJ (sts i).tm t = .ptr r k m/\(sts i).hp.get r=some b/\b.arr=false/\b.kq=false/\aK (sts i).tm l=some x/\aH E.P ty=some n /\
  x.cells.length=n/\x.cells.all AV.one=true/\iJ b.es k m x.cells=some d/\(sts (i+1)).hp=(sts i).hp.put r (some { b with es:=d})/\dt nt (sts i).tm o.dst AV.undef=some (sts (i+1)).tm:=by
 have N:i<ops.size:=(iR.1 j).1
 obtain⟨ty,t,l,f,z⟩:=Si R
 obtain⟨y,c,S⟩:=It f (A i o j) W
 obtain⟨t',h,p⟩:=C.stay i o j (by omega) (by omega) (tW z)
 rw[z]at h;cases h
 have g:=LJ A (iQ N) (de ops.size) p
 have a:=gy.1 I o (fU (i:=i) (by simpa using j))
 unfold ze at a
 rw[f]at a
 simp only[g]at a
 have T:=c
 unfold nS at c
 split at c
 ·rename_i r' k m Q n q Y V
  simp only[dT]at q
  rw[q]at a
  simp only at a
  split at c
  ·rename_i b O
   obtain⟨⟨K,v,L⟩,c⟩:=fO.1 c
   have e:b.arr=false:=by
    split at a
    ·rename_i b' u
     rw[<-age C A B F D O (iQ N) (de _) b' u]
     simpa using a
    ·cases a
   rw[if_neg (by simp[e])]at c
   simp only[bN]at c
   obtain⟨d,J,c⟩:=c
   injection c with X U
   subst X
   exact⟨ty,t,l,r',k,m,b,Q,n,d,f,z,q,O,e,L,Y,V,K,v,J,U.symm,S⟩
  ·cases c
 ·cases c
theorem Io{j:Nat}{o:Oper}(a:ops[j]?=some o){q:Ref}(h:turns sts j q):makes sts j q\/(cls E o=2\/cls E o=4) /\∃t,mZ E o=some t/\jK (dJ (sts j).tm t)=some q:=by
 by_cases c:cls E o=2
 ·cases hw:wanted ops (sts j).tm o with
  | none=>have:=A j o a;unfold evalOp at this;rw[hw]at this;cases this
  | some b=>
   cases b with
   | false=>
    have:=A j o a;unfold evalOp at this;rw[hw]at this
    simp only[bN]at this
    obtain⟨tm',_,e⟩:=this
    unfold turns at h
    rw[<-e]at h
    exact absurd rfl h
   | true=>
    obtain⟨ty,t,u,r,p,v,b,x,n,l,f,g,m,y,_,_,_,_,_,_,_,he,_⟩:=RC C A B F D I a c hw
    refine .inr ⟨.inl c,t,g,?_⟩
    unfold turns at h
    rw[he,aa.get_put]at h
    split at h
    ·rename_i e;subst e;rw[m];rfl
    ·exact absurd rfl h
 ·rcases(Ip C A B a).2.2 c q h with d | ⟨d,k⟩
  ·exact .inl d
  ·exact .inr ⟨.inr d,k⟩
omit A F D I C B in
theorem V4{L:Nat->Bool}(f:Closed ops L){i:Nat}{o:Oper}(l:ops[i]?=some o)(k:L i=false)(c : ∀e∈eR o,L e=true){j:Nat}{g:Oper}(b:ops[j]?=some g)
 (h:j<i->((dw ops.toList []).getD i 0).testBit j=true) (m:i<j->((dw ops.toList []).getD j 0).testBit i=true):(L j=true↔j<i):=by
 constructor
 ·intro d
  rcases Km j i with a | rfl | a
  ·exact a
  ·rw[k]at d;cases d
  ·have:=wF f j g b (λe n=>f j g d b e n) i (m a)
   rw[k]at this;cases this
 ·intro a
  exact wF f i o l c j (h a)
omit F D I B in
include G in
theorem V3{L:Nat->Bool}(W:Closed ops L){i:Nat}{o:Oper}(u:ops[i]?=some o)(V:L i=false)(K : ∀e∈eR o,L e=true)(g:cls E o=1\/cls E o=2){t:Tmp}(x:mZ E o=some t){q:Ref}(y:jK (dJ (sts i).tm t)=some q)
 {j:Nat} {l:Oper} (k:ops[j]?=some l) (f:cls E l=2\/cls E l=4) {t':Tmp} (m:mZ E l=some t') (n:jK (dJ (sts j).tm t')=some q):(L j=true↔j<i):=by
 have z:i<ops.size:=(iR.1 u).1
 have N:j<ops.size:=(iR.1 k).1
 obtain⟨t1,S,s1⟩:=C.stay i o u (by omega) (by omega) (tW x)
 obtain⟨t2,R,s2⟩:=C.stay j l k (by omega) (by omega) (tW m)
 rw[x]at S;cases S
 rw[m]at R;cases R
 have U:=LJ A (iQ z) (de ops.size) s1
 have X:=LJ A (iQ N) (de ops.size) s2
 rw[<-U]at y
 rw[<-X]at n
 have T : ∀a b,mZ E a=some t->mZ E b=some t' ->¬(settled E ops a b=true):=by
  intro a b J Q d
  unfold settled at d
  rw[J,Q]at d
  simp only[fv,Lq]at d
  have c:=gy.1 G
  rcases d with d | d
  ·have:=c _ d
   unfold F9 at this
   simp only[y,n]at this
   simp at this
  ·have:=c _ d
   unfold F9 at this
   simp only[y,n]at this
   simp at this
 have O : ∀a b,mZ E a=some t'->mZ E b=some t ->¬(settled E ops a b=true):=by
  intro a b J Q d
  unfold settled at d
  rw[J,Q]at d
  simp only[fv,Lq]at d
  have c:=gy.1 G
  rcases d with d | d
  ·have:=c _ d
   unfold F9 at this
   simp only[y,n]at this
   simp at this
  ·have:=c _ d
   unfold F9 at this
   simp only[y,n]at this
   simp at this
 refine V4 W u V K k (λp=>?_) (λp=>?_)
 ·by_cases v:El (cls E o) (cls E l)=true
  ·rcases C.meet i j o l u k p v (tW x) (tW m)with h | h
   ·exact h
   ·exact absurd h (T o l x m)
  ·refine C.must i j o l u k p ?_
   unfold rq blind
   rcases g with g | g<;>rcases f with f | f<;>rw[g,f]at v ⊢ <;> first | rfl | exact absurd rfl v
 ·by_cases v:El (cls E l) (cls E o)=true
  ·rcases C.meet j i l o k u p v (tW m) (tW x)with h | h
   ·exact h
   ·exact absurd h (O l o m x)
  ·refine C.must j i l o k u p ?_
   unfold rq blind
   rcases g with g | g<;>rcases f with f | f<;>rw[g,f]at v ⊢ <;> first | rfl | exact absurd rfl v
omit A F D I B in
theorem uN{L:Nat->Bool}(u:Closed ops L){i:Nat}{o:Oper}(l:ops[i]?=some o)(t:L i=false)(p : ∀e∈eR o,L e=true)(v:3<=cls E o)
 {j:Nat} {d:Oper} (f:ops[j]?=some d) (n:blind E o=false\/cls E d≠2) (k:pz E o d=false/\pz E d o=false) (c:cls E d=2\/cls E d=4\/cls E o=4/\3<=cls E d):(L j=true↔j<i):=by
 have z:=FI E o
 have y:=FI E d
 have q:rq E o d=true/\rq E d o=true:=by
  unfold rq
  rw[k.1,k.2]
  have a:cls E o=3\/cls E o=4:=by omega
  rcases c with c | c | ⟨m,c⟩
  ·have x:=n.resolve_right (λh=>h c)
   rcases a with a | a<;>rw[a,c,x]<;>exact⟨rfl,rfl⟩
  ·rcases a with a | a<;>rw[a,c]<;>simp
  ·have b:cls E d=3\/cls E d=4:=by omega
   rcases b with b | b<;>rw[m,b]<;>simp
 exact V4 u l t p f (λg=>C.must i j o d l f g q.1) (λg=>C.must j i d o f l g q.2)
end
end
section
section
variable{E:Env}{pc:FuncId->List AV->Option AV}{tc:yD->List AV->aa->dz}{nt dep:Nat}{ops:Array Oper}{sts:Nat->St}
variable(C:adj E ops)(A : ∀i o,ops[i]?=some o->evalOp E pc tc nt dep true ops o (sts i)=some (sts (i+1)))
variable{M:Mem}{ι:Map}{w:World}{ds:List Deferred}
structure Xt (E:Env) (ops:Array Oper) (sts:Nat->St) (M:Mem) (ι:Map) (w:World) (L:Nat->Bool) (M1:Mem) (ι1:Map) (g1:cX) (c:Nat) (w1:World):Prop where
 sim:iv M1 ι1 g1 w1
 fwd:vp M ι (sts 0).hp.get w M1 ι1 g1 w1
 le:c<=ops.size
 cut : ∀j o,j<c->ops[j]?=some o->3<=cls E o->L j=true
 hand : ∀q,ι1 q≠none->q.g<(sts c).hp.gen q.d q.t \/∃j,j<ops.size/\L j=true/\c<=j/\makes sts j q
 get : ∀q,∃n,n<=ops.size/\g1 q=(sts n).hp.get q /\∀j,j<ops.size->turns sts j q->(L j=true↔j<n)
structure Xu (E:Env) (nt:Nat) (ops:Array Oper) (sts:Nat->St) (M:Mem) (ι:Map) (w:World) (ds:List Deferred) (L:Nat->Bool) (a1:Act) (w1:World):Prop where
 closed:Closed ops L
 defers:a1.defers=ds
 at_ : ∃M1 ι1 tm1 g1 c,TS ops sts L tm1/\TR M1 ι1 tm1 a1/\a1.tmps.size=nt/\Xt E ops sts M ι w L M1 ι1 g1 c w1
theorem CH{a b:Nat}{q:Ref}(h:a<=b)(d : ∀j,a<=j->j<b ->¬turns sts j q):(sts b).hp.get q=(sts a).hp.get q:=by
 induction b with
 | zero=>rw[Ho.1 h]
 | succ b e=>
  rcases fE b a with g | c
  ·rw[show a=b+1 by omega]
  ·have:=d b c (sa b)
   unfold turns at this
   rw[Bs.1 this]
   exact e c λj f k=>d j f (by omega)
theorem Xt.Pm{L:Nat->Bool}{p:Mem}{f:Map}{m:cX}{c:Nat}{t:World}(h:Xt E ops sts M ι w L p f m c t){q:Ref}{i:Nat}(x:i<=ops.size)(k : ∀j,j<ops.size->turns sts j q->(L j=true↔j<i)):m q=(sts i).hp.get q:=by
 obtain⟨n,v,e,l⟩:=h.get q
 rw[e]
 rcases Nat.le_total n i with hle | hle
 ·exact(CH hle λj u g d=>by
   have a:=l j (by omega) d
   have b:=k j (by omega) d
   have:=a.1 (b.2 g)
   omega).symm
 ·exact CH hle λj u g d=>by
   have a:=l j (by omega) d
   have b:=k j (by omega) d
   have:=b.1 (a.2 g)
   omega
variable(B:ops.toList.all (Jy E (sts ops.size))=true)
include C A B
theorem Em{L:Nat->Bool}{J:Mem}{a:Map}{z:cX}{c:Nat}{y:World}(F:iv M ι (sts 0).hp.get w)(D:vM ι (sts 0).hp)(h:Xt E ops sts M ι w L J a z c y){i:Nat}(l:i<ops.size)(N:L i=false){q:Ref}
 (x:(sts i).hp.get q≠none) (v:a q≠none) {j:Nat} (e:j<ops.size) (g:makes sts j q):(L j=true↔j<i):=by
 constructor
 ·intro b
  rcases fE j i with f | n
  ·exact f
  ·have K:=P9 C A B F D (iQ l) q x
   have k:=tF C A B n (iQ e) q.d q.t
   have:=g.1
   omega
 ·intro f
  rcases h.hand q v with K | ⟨O,p,b,_,m⟩
  ·have u:j<c:=by
    rcases fE j c with k | k
    ·exact k
    ·have:=tF C A B k (iQ e) q.d q.t
     have:=g.1
     omega
   exact h.cut j _ u (ku e) (BK C A B (ku e) g)
  ·rw[Fu C A B e p g m];exact b
variable(F:iv M ι (sts 0).hp.get w)(D:vM ι (sts 0).hp)(G:(sQ E ops).all (F9 (sts ops.size).tm)=true)(I:ops.toList.all (ze (sts ops.size))=true)
include F D G I
theorem Kw{L:Nat->Bool}(J:Closed ops L){K:Mem}{b:Map}{x:cX}{c:Nat}{z:World}(h:Xt E ops sts M ι w L K b x c z){i:Nat}{o:Oper}(p:ops[i]?=some o)(v:L i=false)(g : ∀e∈eR o,L e=true)
 (l:cls E o=1\/cls E o=2) {t:Tmp} (N:mZ E o=some t) {q:Ref} (y:jK (dJ (sts i).tm t)=some q) (a:(sts i).hp.get q≠none) (O:b q≠none) :
 x q=(sts i).hp.get q /\∀j,j<ops.size->turns sts j q->(L j=true↔j<i):=by
 have d:i<ops.size:=(iR.1 p).1
 have key : ∀j,j<ops.size->turns sts j q->(L j=true↔j<i):=by
  intro j u Q
  have f:=ku u
  rcases Io C A B F D I f Q with hm | ⟨k,t',n,m⟩
  ·exact Em C A B F D h d v a O u hm
  ·exact V3 C A G J p v g l N y f k n m
 exact⟨h.Pm (iQ d) key,key⟩
theorem TB(hpc : ∀f xs y,pc f xs=some y->gP E.P f xs y)(htc : ∀f xs H y H',tc f xs H=some (y,H')->rO E.P f xs H y H'){ro:Option Nat}{Q:Exit->Act->World->Prop}
 {L L':Nat->Bool} {i:Nat} {o:Oper} (ho:ops[i]?=some o) (hi:L i=false) (hed : ∀e∈eR o,L e=true)
 (R : ∀j,L' j=true↔(L j=true\/j=i)) {a1:Act} {w1:World} (hI:Xu E nt ops sts M ι w ds L a1 w1) {K:Act->World->Prop} (hK : ∀a' w',Xu E nt ops sts M ι w ds L' a' w'->K a' w') :
 if Region.wanted o (yielded ops a1.tmps) then o.wpIn (FW ro) 0 E.P a1 w1 K Q else K (a1.put o.dst undef) w1:=by
 obtain⟨hc,hds,M1,Z,tm1,g1,c,hTS,X,hnt,T⟩:=hI
 have O:i<ops.size:=(iR.1 ho).1
 have hc':Closed ops L':=Closed.next hc ho hed R
 have hlook : ∀t∈o.looksAt ops,dJ tm1 t=dJ (sts i).tm t:=λt ht=>IJ C.toRegB A hc ho hi hed hTS ht
 have hag:=BS hlook
 have hwd:=zQ hlook
 have step:=A i o ho
 have hle4:=FI E o
 have fin : ∀(u:Value)(x:AV)(S:List AV)(w':World)(M':Mem)(ι':Map),(sts (i+1)).hp=(sts i).hp->dt nt (sts i).tm o.dst x=some (sts (i+1)).tm->dt nt tm1 o.dst x=some S ->
  TR M' ι' S (a1.put o.dst u)->(a1.put o.dst u).tmps.size=nt->iv M' ι' g1 w'->vp M1 Z g1 w1 M' ι' g1 w'->(∀q,ι' q≠none->Z q≠none)->Xu E nt ops sts M ι w ds L' (a1.put o.dst u) w':=by
  intro u x S w' M' ι' hsame hx Y htr hn hS' hF' hι
  refine⟨hc',(put_defers _ _ _).trans hds,M',ι',S,g1,c,vv C.toRegB ho R hi hTS hx Y,htr,hn,hS',T.fwd.trans hF',T.le,λj oj hj J hcj=>(R j).2 (.inl (T.cut j oj hj J hcj)),λq hq=>?_,λq=>?_⟩
  ·rcases T.hand q (hι q hq)with h | ⟨j,h1,h2,h3,h4⟩
   ·exact .inl h
   ·exact .inr ⟨j,h1,(R j).2 (.inl h2),h3,h4⟩
  ·obtain⟨n,h1,h2,h3⟩:=T.get q
   refine⟨n,h1,h2,λj hj hT=>?_⟩
   have N:j≠i:=by intro e;subst e;exact hT (by rw[hsame])
   rw[<-h3 j hj hT,R j]
   simp[N]
 have hkeyfree : ∀k:Nat,Z { (⟨dep+1,0,(sts ops.size).hp.gen (dep+1) 0,0⟩:Ref)with k:=k}=none:=by
  intro k
  cases hq:Z { (⟨dep+1,0,(sts ops.size).hp.gen (dep+1) 0,0⟩:Ref)with k:=k} with
  | none=>rfl
  | some l=>
   exfalso
   rcases T.hand _ (by rw[hq];simp)with h | ⟨j,h1,_,_,h4⟩
   ·have:=tF C A B T.le (de _) (dep+1) 0
    simp only at h
    omega
   ·have:=tF C A B (show j+1<=ops.size from h1) (de _) (dep+1) 0
    have:=h4.2
    simp only at this
    omega
 have quiet : ∀ {x:AV} {tm':List AV},(sts (i+1)).hp=(sts i).hp->dt nt (sts i).tm o.dst x=some (sts (i+1)).tm ->
  cz E pc true g1 tm1 ⟨dep+1,0,(sts ops.size).hp.gen (dep+1) 0,0⟩ o=some (x,[])->o.wpIn (FW ro) 0 E.P a1 w1 K Q:=by
  intro x tm' hsame hx hq
  obtain⟨S,Y⟩:=lK (tm1:=tm1) hx
  refine zw (E:=E) (o:=o) T.sim X rfl hkeyfree hpc (λh=>by cases h) hq ro K Q λu w' ⟨M',ι',h1,h2,h3,h4⟩=>hK _ _ ?_
  rw[nL]at h2 h3
  obtain⟨h5,h6⟩:=(X.mono h3.mem h3.map).put hnt Y h1
  refine fin u x S w' M' ι' hsame hx Y h5 h6 h2 h3 λq hq hn=>hq (h4 q hn (λk hk=>by simp at hk))
 have hno:wanted ops (sts i).tm o=some false->if Region.wanted o (yielded ops a1.tmps) then o.wpIn (FW ro) 0 E.P a1 w1 K Q else K (a1.put o.dst undef) w1:=by
  intro hw
  have hw1:=hw
  rw[<-hwd]at hw1
  rw[lE X hw1]
  simp only[mr,if_false]
  unfold evalOp at step
  rw[hw]at step
  simp only[bN]at step
  obtain⟨tm',ht,he⟩:=step
  have hx:dt nt (sts i).tm o.dst AV.undef=some (sts (i+1)).tm:=by rw[<-he];exact ht
  obtain⟨S,Y⟩:=lK (tm1:=tm1) hx
  obtain⟨h1,h2⟩:=X.put hnt Y (u:=undef) (.v rfl)
  exact hK _ _ (fin undef AV.undef S w1 M1 Z (by rw[<-he]) hx Y h1 h2 T.sim vp.refl λ_ h=>h)
 have maker : ∀ {d:Nat} {x:AV} {bs:List bw},3<=cls E o->(sts (i+1)).hp=keyed ⟨dep,d,(sts i).hp.gen dep d,0⟩ 0 bs (sts i).hp->dt nt (sts i).tm o.dst x=some (sts (i+1)).tm ->
  cz E pc true g1 tm1 ⟨dep,d,(sts i).hp.gen dep d,0⟩ o=some (x,bs)->(∀k,Z { (⟨dep,d,(sts i).hp.gen dep d,0⟩:Ref)with k:=k}=none)->o.wpIn (FW ro) 0 E.P a1 w1 K Q:=by
  intro d x bs hcl hhp hx hq' hfree
  obtain⟨S,Y⟩:=lK (tm1:=tm1) hx
  refine zw (E:=E) (o:=o) T.sim X rfl hfree hpc (λh=>by cases h) hq' ro K Q λu w' ⟨M',ι',h1,h2,h3,h4⟩=>hK _ _ ?_
  obtain⟨h5,h6⟩:=(X.mono h3.mem h3.map).put hnt Y h1
  refine⟨hc',(put_defers _ _ _).trans hds,M',ι',S,ui g1 ⟨dep,d,(sts i).hp.gen dep d,0⟩ bs,c,vv C.toRegB ho R hi hTS hx Y,h5,h6,h2,T.fwd.trans h3,T.le,λj oj hj J hcj=>(R j).2 (.inl (T.cut j oj hj J hcj)),λq hq=>?_,λq=>?_⟩
  ·by_cases hq1:Z q=none
   ·by_cases hk : ∃k,k<bs.length/\q = { (⟨dep,d,(sts i).hp.gen dep d,0⟩:Ref)with k:=k}
    ·obtain⟨k,hk,e⟩:=hk
     refine .inr ⟨i,O,(R i).2 (.inr rfl),?_,?_⟩
     ·rcases fE i c with V | V
      ·have:=T.cut i o V ho (by omega)
       rw[hi]at this;cases this
      ·exact V
     ·subst e
      refine⟨de _,?_⟩
      simp only
      rw[hhp,aa.mK,if_pos ⟨rfl,rfl,by intro e;rw[e]at hk;simp at hk⟩]
      exact sa _
    ·exact absurd (h4 q hq1 λk hk' e=>hk ⟨k,hk',e⟩) hq
   ·rcases T.hand q hq1 with h | ⟨j,g1',g2,g3,g4⟩
    ·exact .inl h
    ·exact .inr ⟨j,g1',(R j).2 (.inl g2),g3,g4⟩
  ·by_cases hk:q.d=dep/\q.t=d/\q.g=(sts i).hp.gen dep d/\q.k<bs.length
   ·have hmk:makes sts i q:=by
     obtain⟨k1,k2,k3,k4⟩:=hk
     refine⟨by rw[k1,k2,k3];exact de _,?_⟩
     rw[hhp,aa.mK,if_pos ⟨k1,k2,by intro e;rw[e]at k4;simp at k4⟩,k3]
     exact sa _
    refine⟨i+1,O,?_,λj hj hT=>?_⟩
    ·rw[hhp,aa.nm]
     unfold ui
     rw[if_pos hk,if_pos hk]
    ·rw[R j]
     by_cases N:j=i
     ·subst N;simp
     ·have J:=ku hj
      have hturn:turns sts i q:=by
       obtain⟨k1,k2,k3,k4⟩:=hk
       intro e
       have h5:(sts i).hp.get q≠none:=by
        rw[<-e,hhp,aa.nm]
        unfold ui
        rw[if_pos ⟨k1,k2,k3,k4⟩,fj k4]
        simp
       have:=P9 C A B F D (iQ O) q h5
       rw[k1,k2,k3]at this
       exact absurd this (Cz _)
      have hnot : ¬j<i:=by
       intro hji'
       obtain⟨k1,k2,k3,k4⟩:=hk
       have hlive : ∀m,m<=i->(sts m).hp.get q≠none->False:=by
        intro m hm W
        have h6:=P9 C A B F D (Cy hm (iQ O)) q W
        have h7:=tF C A B hm (iQ O) q.d q.t
        rw[k1,k2]at h6 h7
        rw[k3]at h6
        omega
       by_cases h8:(sts j).hp.get q=none
       ·exact hlive (j+1) hji' (λh9=>hT (by rw[h8,h9]))
       ·exact hlive j (iQ hji') h8
      have:(L j=true↔j<i):=by
       obtain⟨n',k1,k2,k3⟩:=T.get q
       have h9:=k3 i O hturn
       rw[hi]at h9
       have h10:=k3 j hj hT
       rw[h10]
       constructor
       ·intro h11
        have : ¬i<n':=λh=>by simpa using h9.2 h
        omega
       ·intro h11;exact absurd h11 hnot
      rw[this]
      constructor
      ·rintro(h | h)
       ·omega
       ·exact absurd h N
      ·intro h;left;omega
   ·obtain⟨n',k1,k2,k3⟩:=T.get q
    refine⟨n',k1,?_,λj hj hT=>?_⟩
    ·unfold ui;rw[if_neg hk];exact k2
    ·have N:j≠i:=by
      intro e;subst e
      refine hT ?_
      rw[hhp,aa.nm]
      unfold ui
      rw[if_neg hk]
     rw[<-k3 j hj hT,R j]
     simp[N]
 cases hwt:wanted ops (sts i).tm o with
 | none=>unfold evalOp at step;rw[hwt]at step;cases step
 | some b=>
 cases b with
 | false=>exact hno hwt
 | true=>
 have hw1:=hwt
 rw[<-hwd]at hw1
 have hcs:cls E o=0\/cls E o=1\/cls E o=2\/cls E o=3\/cls E o=4:=by omega
 rcases hcs with hcl | hcl | hcl | hcl | hcl
 ·
  rw[lE X hw1]
  simp only[if_true]
  have hh:=Js hcl
  rcases oZ step with ⟨hw,_,_,_⟩ | ⟨hw,x,bs,hq,tm',ht,he⟩ | hwk
  ·rw[hwt]at hw;cases hw
  ·obtain⟨hbs,hall⟩:=zl hh hq
   subst hbs
   exact quiet (tm':=tm') (Cb (.inl hcl) step) (by rw[he];exact ht) (by rw[uU hag];exact hall _ _)
  ·rw[gS hwk]at hh;cases hh
 ·
  rw[lE X hw1]
  simp only[if_true]
  obtain⟨t,U,hst,hwk⟩:=Mx hcl
  rcases oZ step with ⟨hw,_,_,_⟩ | ⟨hw,x,bs,hq,tm',ht,he⟩ | hwk'
  ·rw[hwt]at hw;cases hw
  ·obtain⟨hbs,hall⟩:=look_nil U hq
   subst hbs
   refine quiet (tm':=tm') (Cb (.inr hcl) step) (by rw[he];exact ht) ?_
   rw[uU hag]
   refine hall g1 _ λq hrq W=>?_
   refine(Kw C A B F D G I hc T ho hi hed (.inl hcl) hst hrq W ?_).1
   have ht1:dJ tm1 t=dJ (sts i).tm t:=by
    refine hlook t ?_
    unfold Oper.looksAt
    refine PN _ (List.mem_filterMap.2 ⟨.tmp t,?_,rfl⟩)
    unfold CN at U
    split at U
    ·rename_i hop;cases U;rw[hop];simp[Op.operands]
    ·rename_i hop;cases U;rw[hop];simp[Op.operands]
    ·rename_i hop;cases U;rw[hop];simp[Op.operands]
    ·rename_i hop
     split at U
     ·cases U
     ·cases U;rw[hop];simp[Op.operands]
    ·rename_i hop;cases U;rw[hop];simp[Op.operands]
    ·rename_i c hop
     split at U
     ·split at U
      ·rename_i hargs
       cases U
       rw[hop]
       have:(Operand.tmp t)∈c.args:=by rw[<-Array.mem_toList_iff,hargs];simp
       simp only[Op.operands,Call.operands]
       simp[this]
      ·cases U
     ·cases U
    ·cases U
   have hv:=X.at_ t
   rw[ht1]at hv
   revert hrq hv
   generalize dJ (sts i).tm t=v
   generalize a1.tmps.getD t undef=u
   intro hrq hv
   cases hv with
   | ptr hr hzl=>cases hrq;rw[hr];simp
   | cG hr=>cases hrq;rw[hr];simp
   | mp hr=>cases hrq;rw[hr];simp
   | ch hr=>cases hrq;rw[hr];simp
   | _=>cases hrq
  ·rw[hwk]at hwk';cases hwk'
 ·
  rw[lE X hw1]
  simp only[if_true]
  obtain⟨ty,t,xo,r,i',j',b,x,n,es',hop,hs,hta,hb,harr,hfr,hxo,hn,hxn,hx1,hes,he,hx⟩:=RC C A B F D I ho hcl hwt
  have hmem : ∀y,y = .tmp t\/y=xo->aK tm1 y=aK (sts i).tm y:=by
   intro y hy
   refine hag y ?_
   rw[hop]
   rcases hy with rfl | rfl<;>simp[Op.operands]
  have hpv:=aT X (x := .tmp t) (y := .ptr r i' j') (by rw[hmem _ (.inl rfl)];simp only[aK,hta])
  have hxv:=aT X (x:=xo) (y:=x) (by rw[hmem _ (.inr rfl)];exact hxo)
  have hhand:Z r≠none:=by
   revert hpv
   generalize a1.eval (.tmp t)=u
   intro hpv
   cases hpv with | ptr hr hzl=>rw[hr];simp
  obtain⟨hg,hord⟩:=Kw C A B F D G I hc T ho hi hed (.inr hcl) hs (q:=r) (by rw[hta];rfl) (by rw[hb];simp) hhand
  rw[hb]at hg
  obtain⟨w',hr,hS',hF'⟩:=Nr (P:=E.P) T.sim hn hpv hxv hg hxn hx1 hfr harr hes
  obtain⟨S,Y⟩:=lK (tm1:=tm1) hx
  have hok:eV E.P o a1 w1 λu w2=>u=undef/\w2=w':=eV.G1 (by simp[execOp,hop,hr]) ⟨rfl,rfl⟩
  refine hok ro K Q λu w2 ⟨e1,e2⟩=>hK _ _ ?_
  subst e1;subst e2
  obtain⟨h5,h6⟩:=(X.mono hF'.mem hF'.map).put hnt Y (u:=undef) (.v rfl)
  refine⟨hc',(put_defers _ _ _).trans hds,M1,Z,S,lU g1 r { b with es:=es'},c,vv C.toRegB ho R hi hTS hx Y,h5,h6,hS',T.fwd.trans hF',T.le,λj oj hj J hcj=>(R j).2 (.inl (T.cut j oj hj J hcj)),λq hq=>?_,λq=>?_⟩
  ·rcases T.hand q hq with h | ⟨j,h1,h2,h3,h4⟩
   ·exact .inl h
   ·exact .inr ⟨j,h1,(R j).2 (.inl h2),h3,h4⟩
  ·by_cases hqr:q=r
   ·subst hqr
    refine⟨i+1,O,?_,λj hj hT=>?_⟩
    ·rw[he,aa.get_put,if_pos rfl];unfold lU;rw[if_pos rfl]
    ·rw[R j]
     by_cases N:j=i
     ·subst N;simp
     ·rw[hord j hj hT]
      constructor
      ·rintro(h | h)
       ·omega
       ·exact absurd h N
      ·intro h;left;omega
   ·obtain⟨n',h1,h2,h3⟩:=T.get q
    refine⟨n',h1,?_,λj hj hT=>?_⟩
    ·unfold lU;rw[if_neg hqr];exact h2
    ·have N:j≠i:=by
      intro e;subst e
      refine hT ?_
      rw[he,aa.get_put,if_neg hqr]
     rw[<-h3 j hj hT,R j]
     simp[N]
 ·
  rw[lE X hw1]
  simp only[if_true]
  obtain⟨hh,hwk⟩:=Cm hcl
  rcases oZ step with ⟨hw,_,_,_⟩ | ⟨hw,x,bs,hq,tm',ht,he⟩ | hwk'
  ·rw[hwt]at hw;cases hw
  ·obtain⟨d,hd⟩:=gU.1 (C.made i o ho hcl)
   rw[hd,cY]at hq he
   have hx:dt nt (sts i).tm o.dst x=some (sts (i+1)).tm:=by rw[he];exact ht
   obtain⟨S,Y⟩:=lK (tm1:=tm1) hx
   have hhp:(sts (i+1)).hp=keyed ⟨dep,d,(sts i).hp.gen dep d,0⟩ 0 bs (sts i).hp:=by rw[he]
   have hloc:blind E o=false->EV Z (sts i).hp.get g1:=by
    intro hbl q b hg W
    rw[<-hg]
    refine T.Pm (iQ O) λj hj hT=>?_
    have J:=ku hj
    rcases Io C A B F D I J hT with hm | ⟨hcj,_⟩
    ·exact Em C A B F D T O hi (by rw[hg];simp) W hj hm
    ·exact uN C hc ho hi hed (by omega) J (.inl hbl) ⟨TK hbl,py (by omega)⟩ (by omega)
   rw[<-uU hag]at hq
   have hq':cz E pc true g1 tm1 ⟨dep,d,(sts i).hp.gen dep d,0⟩ o=some (x,bs):=by
    cases hbl:blind E o with
    | true=>exact Xb hbl hq
    | false=>exact FE T.sim (hloc hbl) X hq
   have hfree : ∀k,Z { (⟨dep,d,(sts i).hp.gen dep d,0⟩:Ref)with k:=k}=none:=by
    intro k
    cases hqk:Z { (⟨dep,d,(sts i).hp.gen dep d,0⟩:Ref)with k:=k} with
    | none=>rfl
    | some l=>
     exfalso
     rcases T.hand _ (by rw[hqk];simp)with h | ⟨j,h1,h2,h3,h4⟩
     ·simp only at h
      rcases fE i c with V | V
      ·have:=T.cut i o V ho (by omega)
       rw[hi]at this;cases this
      ·have:=tF C A B V (iQ O) dep d
       omega
     ·have J:=ku h1
      have h5:=h4.1;have h6:=h4.2
      simp only at h5 h6
      rcases Km j i with N | N | N
      ·have:=tF C A B (show j+1<=i from N) (iQ O) dep d
       omega
      ·subst N;rw[hi]at h2;cases h2
      ·have hcj:=BK C A B J h4
       have hc4:cls E ops[j]=3\/cls E ops[j]=4:=by have:=FI E ops[j];omega
       rcases hc4 with hc3 | hc4
       ·
        obtain⟨dj,hdj⟩:=gU.1 (C.made j _ J hc3)
        have hstepj:=A j _ J
        have W:d≠dj:=by
         intro e
         have:=C.distinct i j o ops[j] d ho J hd (by rw[hdj,e])
         omega
        rcases oZ hstepj with ⟨_,_,_,he2⟩ | ⟨_,_,bs2,_,_,_,he2⟩ | hwk2
        ·rw[he2]at h6;dsimp only at h6;omega
        ·rw[he2]at h6
         simp only[hdj,cY]at h6
         rw[aa.mK,if_neg (by intro hcc;exact W hcc.2.1)]at h6
         omega
        ·rw[(Cm hc3).2]at hwk2;cases hwk2
       ·cases hha:pz E o ops[j] with
        | true=>
         have W:=Q3 (E:=E) (yN.1 hha).1 hq
         have hmk:makes sts i { (⟨dep,d,(sts i).hp.gen dep d,0⟩:Ref)with k:=k}:=⟨de _,by
          simp only
          rw[hhp,aa.mK,if_pos ⟨rfl,rfl,W⟩]
          exact sa _⟩
         have:=Fu C A B h1 O h4 hmk
         omega
        | false=>
         have:=(uN C hc ho hi hed (by omega) J (.inr (by omega)) ⟨hha,py (by omega)⟩ (.inr (.inl hc4))).1 h2
         omega
   exact maker (by omega) hhp hx hq' hfree
  ·rw[hwk]at hwk';cases hwk'
 ·
  have hb4:blind E o=false:=by unfold blind;rw[hcl];rfl
  cases hat:((Jz o.op).isSome&&o.dst.isSome) with
  | true=>
   rw[lE X hw1]
   simp only[if_true]
   obtain⟨hat1,hat2⟩:=yN.1 hat
   obtain⟨t,ht⟩:=gU.1 hat1
   obtain⟨d,hd⟩:=gU.1 hat2
   have hloc:EV Z (sts i).hp.get g1:=by
    intro q b hg W
    rw[<-hg]
    refine T.Pm (iQ O) λj hj hT=>?_
    have J:=ku hj
    rcases Io C A B F D I J hT with hm | ⟨hcj,_⟩
    ·exact Em C A B F D T O hi (by rw[hg];simp) W hj hm
    ·exact uN C hc ho hi hed (by omega) J (.inl hb4) ⟨py (by omega),py (by omega)⟩ (by omega)
   rcases SG ht hwt step with ⟨x,bs,tm',hq,hx,he⟩ | ⟨c',y,z,x,hop,hcal,hargs,hA,hy,hx⟩
   ·rw[hd,cY]at hq he
    have hx2:dt nt (sts i).tm o.dst x=some (sts (i+1)).tm:=by rw[he];exact hx
    have hhp:(sts (i+1)).hp=keyed ⟨dep,d,(sts i).hp.gen dep d,0⟩ 0 bs (sts i).hp:=by rw[he]
    rw[<-uU hag]at hq
    refine maker (by omega) hhp hx2 (FE T.sim hloc X hq) λk=>?_
    cases hqk:Z { (⟨dep,d,(sts i).hp.gen dep d,0⟩:Ref)with k:=k} with
    | none=>rfl
    | some l=>
     exfalso
     rcases T.hand _ (by rw[hqk];simp)with h | ⟨j,h1,h2,h3,h4⟩
     ·simp only at h
      rcases fE i c with V | V
      ·have:=T.cut i o V ho (by omega)
       rw[hi]at this;cases this
      ·have:=tF C A B V (iQ O) dep d
       omega
     ·have J:=ku h1
      have h5:=h4.1;have h6:=h4.2
      simp only at h5 h6
      rcases Km j i with N | N | N
      ·have:=tF C A B (show j+1<=i from N) (iQ O) dep d
       omega
      ·subst N;rw[hi]at h2;cases h2
      ·have hcj:=BK C A B J h4
       have hc4:cls E ops[j]=3\/cls E ops[j]=4:=by have:=FI E ops[j];omega
       rcases hc4 with hc3 | hc4
       ·obtain⟨dj,hdj⟩:=gU.1 (C.made j _ J hc3)
        have hstepj:=A j _ J
        have W:d≠dj:=by
         intro e
         have:=C.distinct i j o ops[j] d ho J hd (by rw[hdj,e])
         omega
        rcases oZ hstepj with ⟨_,_,_,he2⟩ | ⟨_,_,bs2,_,_,_,he2⟩ | hwk2
        ·rw[he2]at h6;dsimp only at h6;omega
        ·rw[he2]at h6
         simp only[hdj,cY]at h6
         rw[aa.mK,if_neg (by intro hcc;exact W hcc.2.1)]at h6
         omega
        ·rw[(Cm hc3).2]at hwk2;cases hwk2
       ·have:=(uN C hc ho hi hed (by omega) J (.inr (by omega)) ⟨py (by omega),py (by omega)⟩ (.inr (.inl hc4))).1 h2
        omega
   ·
    have hmapM:c'.args.toList.mapM (aK tm1)=some [y,z]:=by
     rw[<-hargs]
     refine mapM_congr λa ha=>hag a ?_
     rw[hop]
     have:a∈c'.args:=by simpa using ha
     simp[Op.operands,Call.operands,this]
    have hvs:=nQ X hmapM
    obtain⟨u,v,hu1⟩:=Bk hvs.1.symm
    rw[hu1]at hvs
    have vy:=hvs.2 0 y u rfl rfl
    have vz:=hvs.2 1 z v rfl rfl
    have hnew0 : ∀r',jK y=some r'->(sts i).hp.get r'≠none->makes sts i ⟨r'.d,r'.t,(sts i).hp.gen r'.d r'.t,0⟩:=by
     intro r' hr' W
     obtain⟨r2,b2,z2,es2,f2,e1,e2,e3,e4⟩:=CE hA
     rw[hr']at e1;cases e1
     refine⟨de _,?_⟩
     simp only
     rw[e4,MJ (by rw[e2];rfl),if_pos ⟨rfl,rfl⟩]
     exact sa _
    have hrefs : ∀r',jK y=some r'->Z r'≠none:=by
     intro r' hr'
     revert vy hr'
     generalize y=v
     intro vy hr'
     cases vy with
     | ptr hr hzl=>cases hr';rw[hr];simp
     | cG hr=>cases hr';rw[hr];simp
     | mp hr=>cases hr';rw[hr];simp
     | ch hr=>cases hr';rw[hr];simp
     | _=>cases hr'
    obtain⟨r',b,k',e1,e2,hqr,e3,u',w',ι',hr',hv',hS',hF',hι'⟩:=Nc (P:=E.P) (ty:=o.type) (H:=(sts i).hp) T.sim vy vz (λr' hr' W=>by
     cases hb:(sts i).hp.get r' with
     | none=>exact absurd hb W
     | some b=>exact hloc r' b hb (hrefs r' hr')) (λe p hp=>KL hloc vz hp) (λr' hr' W=>by
     cases hqk:Z ⟨r'.d,r'.t,(sts i).hp.gen r'.d r'.t,0⟩ with
     | none=>rfl
     | some l=>
      exfalso
      rcases T.hand _ (by rw[hqk];simp)with h | ⟨j,h1,h2,h3,h4⟩
      ·simp only at h
       rcases fE i c with V | V
       ·have:=T.cut i o V ho (by omega)
        rw[hi]at this;cases this
       ·have:=tF C A B V (iQ O) r'.d r'.t
        omega
      ·have:=Fu C A B h1 O h4 (hnew0 r' hr' W)
       subst this
       rw[hi]at h2;cases h2) hA
    have hmk:=hnew0 r' e1 (by rw[e2];simp)
    obtain⟨S,Y⟩:=lK (tm1:=tm1) hx
    have hok:eV E.P o a1 w1 λu2 w2=>u2=u'/\w2=w':=by
     refine eV.of_run ?_ ⟨rfl,rfl⟩
     have hsame:c'.args.map a1.eval = #[u,v]:=by
      apply Lk.1
      rw[Array.toList_map,hu1]
     simp only[execOp,hop,resolve,hcal,invoke,Sem.run_bind,Sem.run_pure,Result.andThen_ok,hsame]
     show(do pure (Next.value (<-Builtin.append_ c'.argTypes o.type #[u,v])):Sem Next).run E.P w1=_
     exact KF hr'
    refine hok ro K Q λu2 w2 ⟨f1,f2⟩=>hK _ _ ?_
    subst f1;subst f2
    obtain⟨h5,h6⟩:=(X.mono hF'.mem hF'.map).put hnt Y hv'
    refine⟨hc',(put_defers _ _ _).trans hds,M1,ι',S,_,c,vv C.toRegB ho R hi hTS hx Y,h5,h6,hS',T.fwd.trans hF',T.le,λj oj hj J hcj=>(R j).2 (.inl (T.cut j oj hj J hcj)),λq hq=>?_,λq=>?_⟩
    ·by_cases hqq:q=⟨r'.d,r'.t,(sts i).hp.gen r'.d r'.t,0⟩
     ·refine .inr ⟨i,O,(R i).2 (.inr rfl),?_,by rw[hqq];exact hmk⟩
      rcases fE i c with V | V
      ·have:=T.cut i o V ho (by omega)
       rw[hi]at this;cases this
      ·exact V
     ·by_cases hq1:Z q=none
      ·exact absurd (hι' q hq1 hqq) hq
      ·rcases T.hand q hq1 with h | ⟨j,g1',g2,g3,g4⟩
       ·exact .inl h
       ·exact .inr ⟨j,g1',(R j).2 (.inl g2),g3,g4⟩
    ·have hat3:(sts (i+1)).hp.get q=lU (tJ (sts i).hp.get r') ⟨r'.d,r'.t,(sts i).hp.gen r'.d r'.t,0⟩ k' q:=by rw[e3,get_append _ _ _ _ hqr]
     by_cases hqq:q=⟨r'.d,r'.t,(sts i).hp.gen r'.d r'.t,0⟩
     ·refine⟨i+1,O,by rw[hat3];unfold lU;rw[if_pos hqq,if_pos hqq],λj hj hT=>?_⟩
      rw[R j]
      by_cases N:j=i
      ·subst N;simp
      ·have hturn:turns sts i q:=by
        intro e
        have h5:(sts i).hp.get q≠none:=by
         rw[<-e,hat3];unfold lU;rw[if_pos hqq];simp
        have:=P9 C A B F D (iQ O) q h5
        rw[hqq]at this
        exact absurd this (Cz _)
       have hnot : ¬j<i:=by
        intro hji'
        have hlive : ∀m,m<=i->(sts m).hp.get q≠none->False:=by
         intro m hm W
         have h6:=P9 C A B F D (Cy hm (iQ O)) q W
         have h7:=tF C A B hm (iQ O) q.d q.t
         rw[hqq]at h6 h7
         simp only at h6 h7
         omega
        by_cases h8:(sts j).hp.get q=none
        ·exact hlive (j+1) hji' (λh9=>hT (by rw[h8,h9]))
        ·exact hlive j (iQ hji') h8
       have:(L j=true↔j<i):=by
        obtain⟨n',k1,k2,k3⟩:=T.get q
        have h9:=k3 i O hturn
        rw[hi]at h9
        have h10:=k3 j hj hT
        rw[h10]
        constructor
        ·intro h11
         have : ¬i<n':=λh=>by simpa using h9.2 h
         omega
        ·intro h11;exact absurd h11 hnot
       rw[this]
       constructor
       ·rintro(h | h)
        ·omega
        ·exact absurd h N
       ·intro h;left;omega
     ·by_cases hqr2:q=r'
      ·refine⟨i+1,O,by rw[hat3];unfold lU tJ;rw[if_neg hqq,if_neg hqq,if_pos hqr2,if_pos hqr2],λj hj hT=>?_⟩
       rw[R j]
       by_cases N:j=i
       ·subst N;simp
       ·have J:=ku hj
        have:(L j=true↔j<i):=by
         rcases Io C A B F D I J hT with hm | ⟨hcj,_⟩
         ·exact Em C A B F D T O hi (by rw[hqr2,e2];simp) (by rw[hqr2];exact hrefs r' e1) hj hm
         ·exact uN C hc ho hi hed (by omega) J (.inl hb4) ⟨py (by omega),py (by omega)⟩ (by omega)
        rw[this]
        constructor
        ·rintro(h | h)
         ·omega
         ·exact absurd h N
        ·intro h;left;omega
      ·obtain⟨n',k1,k2,k3⟩:=T.get q
       refine⟨n',k1,?_,λj hj hT=>?_⟩
       ·unfold lU tJ;rw[if_neg hqq,if_neg hqr2];exact k2
       ·have N:j≠i:=by
         intro e;subst e
         refine hT ?_
         rw[hat3];unfold lU tJ;rw[if_neg hqq,if_neg hqr2]
        rw[<-k3 j hj hT,R j]
        simp[N]
  | false=>
  have hha : ∀oj,pz E o oj=false/\pz E oj o=false:=λoj=>⟨py (by omega),TL hat⟩
  have hall : ∀q j,j<ops.size->turns sts j q->(L j=true↔j<i):=by
   intro q j hj hT
   have J:=ku hj
   refine uN C hc ho hi hed (by omega) J (.inl hb4) (hha _) ?_
   rcases Io C A B F D I J hT with hm | ⟨hcj,_⟩
   ·exact .inr (.inr ⟨hcl,BK C A B J hm⟩)
   ·omega
  have hg:g1=(sts i).hp.get:=funext λq=>T.Pm (iQ O) (hall q)
  have hD:vM Z (sts i).hp:=by
   intro q l hq
   rcases T.hand q (by rw[hq];simp)with h | ⟨j,h1,h2,h3,h4⟩
   ·rcases fE i c with V | V
    ·have:=T.cut i o V ho (by omega)
     rw[hi]at this;cases this
    ·exact FX h (tF C A B V (iQ O) _ _)
   ·have J:=ku h1
    have N:=(uN C hc ho hi hed (by omega) J (.inl hb4) (hha _) (.inr (.inr ⟨hcl,BK C A B J h4⟩))).1 h2
    exact FX h4.2 (tF C A B (show j+1<=i from N) (iQ O) _ _)
  have hO:Bo M1 Z ⟨tm1,(sts i).hp⟩ nt a1 w1:=⟨by rw[<-hg];exact T.sim,hD,X,hnt⟩
  obtain⟨x,S,hx,Y,hev⟩:=K2 hlook step
  refine FF (E:=E) (Q:=Q) hO hpc htc (λh=>by cases h) (.inl rfl) hev λa' w' ⟨⟨M',ι',hO',hF'⟩,hd'⟩=>hK a' w' ⟨hc',hd'.trans hds,M',ι',S,(sts (i+1)).hp.get,i+1,vv C.toRegB ho R hi hTS hx Y,hO'.tr,hO'.nt,hO'.sim,?_,O,?_,?_,?_⟩
  ·have:=T.fwd
   rw[hg]at this
   exact this.trans hF'
  ·intro j oj hj J hcj
   by_cases N:j=i
   ·exact(R j).2 (.inr N)
   ·exact(R j).2 (.inl ((uN C hc ho hi hed (by omega) J (.inl hb4) (hha _) (.inr (.inr ⟨hcl,hcj⟩))).2 (by omega)))
  ·intro q hq
   cases hqq:ι' q with
   | none=>exact absurd hqq hq
   | some l=>exact .inl (hO'.dom q l hqq)
  ·intro q
   refine⟨i+1,O,rfl,λj hj hT=>?_⟩
   rw[R j]
   by_cases N:j=i
   ·subst N;simp
   ·rw[hall q j hj hT]
    constructor
    ·rintro(h | h)
     ·omega
     ·exact absurd h N
    ·intro h;left;omega
omit F D G I in
theorem Oq{L:Nat->Bool}(d : ∀i,i<ops.size->L i=true){a J:Act}{N:World}(p:a.defers=ds)(V:Xu E nt ops sts M ι w ds L J N):lD M ι (sts 0) a w nt (sts ops.size) J N:=by
 obtain⟨W,n,O,g,tm1,T,c,x,K,u,m⟩:=V
 have v : ∀t,dJ tm1 t=dJ (sts ops.size).tm t:=by
  intro t
  obtain⟨y,U⟩:=x t
  obtain⟨R,z⟩:=LG C.toRegB A ops.size (de _) t
  by_cases e : ∃j,j<ops.size/\ji ops j=some t
  ·obtain⟨j,b,f⟩:=e
   rw[y j b (d j b) f,R j b (by simpa using b) f]
  ·rw[U λj b _ f=>e ⟨j,b,f⟩,z λj b _ f=>e ⟨j,b,f⟩]
 have k:TR O g (sts ops.size).tm J:=⟨λt=>by rw[<-v];exact K.at_ t⟩
 have Q:T=(sts ops.size).hp.get:=funext λq=>m.Pm (de _) λj b _=>⟨λ_=>b,λ_=>d j b⟩
 refine⟨⟨O,g,⟨by rw[<-Q];exact m.sim,?_,k,u⟩,by rw[<-Q];exact m.fwd⟩,n.trans p.symm⟩
 intro q l S
 rcases m.hand q (by rw[S];simp)with h | ⟨j,y,_,_,z⟩
 ·exact FX h (tF C A B m.le (de _) _ _)
 ·exact FX z.2 (tF C A B (show j+1<=ops.size from y) (de _) _ _)
theorem YQ(Y : ∀f xs y,pc f xs=some y->gP E.P f xs y)(htc : ∀f xs H y H',tc f xs H=some (y,H')->rO E.P f xs H y H'){ro:Option Nat}{a0:Act}(v:a0.defers=ds){Q:Exit->Act->World->Prop}
 (hQ : ∀S w',lD M ι (sts 0) a0 w nt (sts ops.size) S w'->Q .normal S w') : ∀(b:Nat)(a:Array Bool)(U:Act)(O:World),a.size=ops.size ->
 (List.range ops.size).countP (λi => !a.getD i false)<=b->Xu E nt ops sts M ι w ds (λi=>a.getD i false) U O->wpAnyIn (FW ro) 0 E.P .any ops Q b a U O:=by
 have Dk : ∀ {a:Array Bool},a.size=ops.size->Region.ready .any ops a=[] ->∀i,i<ops.size->a.getD i false=true:=by
  intro a k h i
  induction i using Nat.strongRecOn with | ind i ih=>
  intro g
  cases x:a.getD i false with
  | true=>rfl
  | false=>
   exfalso
   have l:=ku g
   have hl':a.getD i true=false:=by
    have:i<a.size:=by omega
    simpa [Array.getD,this] using x
   have:i∈Region.ready .any ops a:=by
    rw[mem_ready]
    refine⟨hl',_,l,λe R hb=>?_⟩
    have z:e.on∈eR ops[i]:=by
     unfold eR
     exact vd.2 ⟨e,Hw.2 ⟨by simpa using R,hb⟩,rfl⟩
    have c:=C.edges i _ l _ z
    exact ih e.on c (by omega)
   rw[h]at this
   cases this
 intro b
 induction b with
 | zero=>
  intro a U O k hf V
  have m : ∀i,i<ops.size->a.getD i false=true:=by
   intro i g
   cases x:a.getD i false with
   | true=>rfl
   | false=>
    exfalso
    have:0<(List.range ops.size).countP (λi => !a.getD i false):=List.countP_pos_iff.2 ⟨i,yL.2 g,by rw[x];rfl⟩
    omega
  refine⟨?_,hQ _ _ (Oq C A B m v V)⟩
  refine Uu.2 λi g=>?_
  rw[mem_ready]at g
  obtain⟨N,o,l,_⟩:=g
  have c:i<ops.size:=(iR.1 l).1
  have T:=m i c
  have:i<a.size:=by omega
  simp[Array.getD,this]at N T
  rw[T]at N
  cases N
 | succ b ih=>
  intro a U O k hf V
  refine⟨λhr=>hQ _ _ (Oq C A B (Dk k hr) v V),λi g=>?_⟩
  rw[mem_ready]at g
  obtain⟨N,o,l,W⟩:=g
  have c:i<ops.size:=(iR.1 l).1
  have u:i<a.size:=by omega
  have J:a.getD i false=false:=by simpa [Array.getD,u] using N
  have n : ∀e∈eR o,(λi=>a.getD i false) e=true:=by
   intro e R
   unfold eR at R
   obtain⟨d,hd,rfl⟩:=vd.1 R
   obtain⟨T,h2⟩:=Hw.1 hd
   exact W d (by simpa using T) h2
  have q : ∀j,(λj=>(a.setIfInBounds i true).getD j false) j=true↔((λj=>a.getD j false) j=true\/j=i):=by
   intro j
   simp only
   by_cases t:j=i
   ·subst t
    simp[u]
   ·rw[getD_set_ne false (tP t)]
    simp[t]
  have:=TB (E:=E) (tc:=tc) (ro:=ro) (K:=wpAnyIn (FW ro) 0 E.P .any ops Q b (a.setIfInBounds i true)) (Q:=Q) C A B F D G I Y htc (L:=λi=>a.getD i false) l J n q V λS w' Z=>by
   refine ih _ S w' (by simp[k]) ?_ Z
   have:=Gp (p:=λj => !a.getD j false) (p':=λj => !(a.setIfInBounds i true).getD j false) (i:=i) (λj X=>by
    simp only[dN]at X ⊢
    cases x:a.getD j false with
    | false=>rfl
    | true=>have:=(q j).2 (.inl x);simp only at this;rw[this]at X;cases X) (by simp only[J,Hc]) (by have:=(q i).2 (.inr rfl);simp only at this ⊢;rw[this];rfl) (List.range ops.size) (yL.2 c)
   omega
  unfold wpOpIn
  rw[l]
  simp only
  split
  ·rename_i hw
   rw[if_pos hw]at this
   exact this
  ·rename_i hw
   rw[if_neg hw]at this
   exact⟨λ_ _=>trivial,this⟩
end
theorem O1{E:Env}(N:E.P.follows .mixedOrders=true){ops:Array Oper}(c:Wu E ops=true){pc:FuncId->List AV->Option AV}(n : ∀f xs y,pc f xs=some y->gP E.P f xs y)
 {tc:yD->List AV->aa->dz} (x : ∀f xs H y H',tc f xs H=some (y,H')->rO E.P f xs H y H') {nt dep id:Nat} {st b:St} {M:Mem} {ι:Map} {a:Act} {w:World} {ro:Option Nat} {Q:Exit->Act->World->Prop}
 (h:nU E pc tc nt dep true ops ops.toList st=some b) (G:uy E ops b=true) (e:Bo M ι st nt a w) (O : ∀z w',lD M ι st a w nt b z w'->Q .normal z w'):(Code.region id ops true).wpIn (FW ro) 0 E.P Q a w:=by
 obtain⟨sts,T,J,S⟩:=IG ops.toList st b h
 rw[Dx]at J
 have C:=YN c
 have A : ∀i o,ops[i]?=some o->evalOp E pc tc nt dep true ops o (sts i)=some (sts (i+1)):=λi o K=>S i o (by simpa using K)
 subst T
 subst J
 have p:(sQ E ops).isEmpty=false:=by
  unfold Wu at c
  rw[aY]at c
  simpa using c.1
 unfold uy at G
 rw[p,E1,aY,aY]at G
 refine wpIn_region_any N ?_
 have v:vp M ι (sts 0).hp.get w M ι (sts 0).hp.get { w with drawn:=w.drawn+1} :=
  ⟨rfl,rfl,rfl,de _,λ_ _ _=>rfl,λ_ _ _ h=>h,λ_ _ h=>h,λr k l h R => .inr ⟨r,k,l,h,R,rfl⟩,λ_ _ _ h => .inl h⟩
 have d : ∀i,(Array.replicate ops.size false).getD i false=false:=by
  intro i
  simp only[F0,PV]
  split<;>rfl
 refine YQ (tc:=tc) (M:=M) (ι:=ι) (w:=w) (a0:=a) C A G.2.2 e.sim e.dom G.1 G.2.1 n x rfl O ops.size _ a _ (by simp) ?_ ?_
 ·exact Cy List.countP_le_length (by simp)
 ·refine⟨λi o u=>?_,rfl,M,ι,(sts 0).tm,(sts 0).hp.get,0,?_,e.tr,e.nt,e.sim.drew rfl,v,EY _,λj o m=>absurd m (Nat.not_lt_zero _),λq L=>?_,λq=>⟨0,EY _,rfl,λj _ _=>⟨λm=>?_,λm=>absurd m (Nat.not_lt_zero _)⟩⟩⟩
  ·exact absurd ((d i).symm.trans u) (by simp)
  ·exact λt=>⟨λi _ u=>absurd ((d i).symm.trans u) (by simp),λ_=>rfl⟩
  ·cases g:ι q with
   | none=>exact absurd g L
   | some l=>exact .inl (e.dom q l g)
  ·exact absurd ((d j).symm.trans m) (by simp)
end
end Go.Ab
namespace Go.Ab
open Go.ChangeShapes Go.WideShapes Go.RowKit
structure Kept (W W':World):Prop where
 os:W'.os=W.os
 output:W'.output=W.output
 size:W.heap.size<=W'.heap.size
 old : ∀b,b<W.heap.size->W'.heap[b]?=W.heap[b]?
theorem Kept.keptBut{W b:World}(h:Kept W b)(a:MemPlace->Prop):W.keptBut b a:=by
 refine⟨h.os,h.output,λi c=>?_⟩
 rw[h.old i c]
 have:=ku c
 rw[this]
 cases W.heap[i]<;>simp
theorem Kept.frozen{W b:World}(h:Kept W b){a:Addr}(c:a.block<W.heap.size):b.frozen? a=W.frozen? a:=by
 unfold World.frozen?
 rw[h.old _ c]
theorem Kept.same{W a:World}(h:Kept W a){p:MemPlace}(hp:p.block<W.heap.size):W.sameAt a p:=by
 cases p with
 | cell b off=>exact World.cell?_of_block (h.old b hp)
 | map b=>exact h.old b hp
section
variable{H:Type}{enc:TypeId × Value->H}{P:Program}
theorem LH{T:TypeId->Prop}(K:Kids P T)(z : ∀t e,T t->P.underlying t=some (.slice e)->0<P.cellsOf e){W j:World}(y:Kept W j){g:Nat->Bool}{a:Nat} : ∀ {b:List TypeId} {c:List Value} {ds:List (DataW H)} {ps:List MemPlace},(∀t∈b,T t) ->
 DataW.TrodAll enc P W a (λ_=>true) true b c ds ps->(∀p∈ps,g p.block=true)->DataW.TrodAll enc P j a g true b c ds ps:=by
 intro b c ds ps u h k
 have m:=h.respare K z u k
 have l:=h.lt
 clear h k u
 induction b generalizing c ds ps with
 | nil=>
  obtain⟨rfl,rfl,rfl⟩:=trodAll_nil m
  exact trodAll_mk0
 | cons t b J=>
  obtain⟨v,O,d,Q,p,q,rfl,rfl,rfl,⟨n,N⟩,L⟩:=trodAll_cons m
  refine⟨p,q,⟨n,DataW.trod_carry n t _ _ N λx f=>y.same (l x (PN _ f))⟩,J L λx f=>l x (List.mem_append_right _ f),rfl⟩
theorem Tr{T:TypeId->Prop}(K:Kids P T)(hz : ∀t e,T t->P.underlying t=some (.slice e)->0<P.cellsOf e){f:Func}{s:ChangeSpec}{apart fresh a m:Bool}{W u:World}{args:Array Value}{ds gs:List (DataW H)}{g:List MemPlace}
 (hT : ∀t∈f.params.toList,T t) (N:s.vars=[]) (S:DataW.Whole enc P f.params.toList s.vars apart W args.toList ds gs g) (hs:s.fn H ds = { results:=[.lit (.bool true)],args:=ds})
 {R:TypeId} (V:f.resultTypes = #[R]) (Z:P.underlying R=some .bool) (J:Kept W u):s.post enc P f apart fresh a m W args (.bool true) u:=by
 have Q:=S
 obtain⟨p,q,Y,X,rfl,n,z⟩:=Q
 rw[N]at X
 obtain⟨rfl,rfl⟩:=trodVars_none X
 have y:=Y.lt
 have l:s.fn H (ds++[]) = { results:=[.lit (.bool true)],args:=ds}:=by rw[uE];exact hs
 have j : ∀(b:Nat)(d:Nat->Bool)(U:Bool),DataW.TrodAll enc P u b d U f.resultTypes.toList ((Value.bool true).resultList f.resultTypes.size) (s.fn H (ds++[])).results []:=by
  intro b d U
  rw[V,l]
  exact trodAll_mk1 (shut_bool Z true)
 have c : ∀d:Nat->Bool,(∀x∈p,d x.block=true)->DataW.TrodAll enc P u 0 d true f.params.toList args.toList (s.fn H (ds++[])).args p:=by
  intro d O
  rw[l]
  exact LH K hz J hT Y O
 have k : ∀d:Nat->Bool,DataW.TrodVars enc P u d s.vars (s.fn H (ds++[])).vars []:=by
  intro d
  rw[N,l]
  rfl
 rw[uE]at z n
 refine⟨ds,[],p++[],[],p,[],S,j _ _ _,c _ (λx L=>by simpa using y x L),k _,J.keptBut _,λ_=>?_⟩
 have h:=trodAll_append (c (λ_=>true) (λ_ _=>rfl)) (j 0 (λ_=>true) true)
 rw[uE]at h
 refine⟨ok_one V rfl (okWide_bool_mk Z true),_,[],p++[],⟨p,[],h,(by rw[N];rfl),rfl,?_,?_⟩,λx L _=>L⟩
 ·intro b v hp
  rw[uE]at hp
  rw[J.frozen (show(⟨b,v,none⟩:Addr).block<W.heap.size from y _ hp)]
  exact n b v hp
 ·intro ha
  rw[uE]
  exact z ha
end
theorem Rg{E:Env}{ok:Array Oper->Bool}(g:E.Ok ok){n:Nat}{f:FuncId}{xs:List AV}(h:cS E (cr E n) f xs=some (.v (.bool true))){W:World}{us:List Value}
 (j:mA (λb o=>W.cell? ⟨b,o,none⟩) eB xs us):Calls E.P f us.toArray W λe d=>e = .returned (.bool true)/\Kept W d:=by
 refine((Mz g h).2 _ W us (λ_ _ _ h=>h) j).mono λe d ⟨v,M',he,hend⟩=>?_
 obtain⟨ls,k,c,_⟩:=hend.res ⟨0,0,0,0⟩
 have a:az ⟨0,0,0,0⟩ depth (.v (.bool true)) []=(.v (.bool true),[]):=xB _ depth 1 _ _ rfl
 rw[a]at c
 cases c
 exact⟨he,hend.os,hend.output,hend.size,hend.old⟩
def Jj(E:Env)(l:List FuncId):Bool:=l.all λf=>match E.P.funcs[f]? with
 | some fn => !(fn.name == "runtime.NumGoroutine")&&(match fn.body with | some c=>codeOk (De E) c | none=>true)
 | none=>false
def ahP(ops:Array Oper)(i:Nat):Nat:=match ops[i]? with
 | some o=>(match o.dst with | some d=>d | none=>0)
 | none=>0
def zd:List (Nat × Nat × Nat × List (Tmp × Tmp))->Array Oper->List (Tmp × Tmp)
 | [],_=>[]
 | (a,b,c,l) :: d,ops=>cond (Nat.beq b ops.size) (cond (Nat.beq a (ahP ops 0)) (cond (Nat.beq c (ahP ops (b - 1))) l (zd d ops)) (zd d ops)) (zd d ops)
def SE(e:List (Nat × Nat × Nat))(o:Oper):Bool:=match o.op with
 | .call c=>(match c.callee with
  | .builtin .append=>(match o.dst,c.args.toList with
   | some d,[.tmp a,.tmp b]=>e.any λ(x,y,z)=>Nat.beq x d&&Nat.beq y a&&Nat.beq z b
   | _,_=>false)
  | .value (.tmp t)=>(match o.dst with
   | some d=>e.any λ(x,y,z)=>Nat.beq x d&&Nat.beq y t&&Nat.beq z 66666
   | none=>false)
  | .builtin .len=>(match o.dst with
   | some d=>e.any λ(x,y,z)=>Nat.beq x d&&Nat.beq y 0&&Nat.beq z 55555
   | none=>false)
  | _=>false)
 | .buildSlice _ n _=>(match o.dst with
  | some d=>e.any λ(x,y,z)=>Nat.beq x d&&Nat.beq y n&&Nat.beq z 77777
  | none=>false)
 | _=>false
def Wi:Option Operand->Bool
 | some (.const (.slice none 0 0))=>true
 | _=>false
def ab6(o:Oper):Bool:=match o.op with
 | .call c=>(match c.callee with
  | .builtin .append=>Wi c.args[0]?
  | _=>false)
 | _=>false
def P8(a:List (Nat × Nat × Nat))(o:Oper):Bool:=match o.op with
 | .buildSlice _ n _=>(match o.dst with
  | some d=>a.any λ(x,y,z)=>Nat.beq x d&&Nat.beq y n&&Nat.beq z 88888
  | none=>false)
 | .call c=>(match o.dst with
  | some d=>a.any λ(x,y,z)=>Nat.beq x d&&((Nat.beq y 0&&Nat.beq z 88888)||(Nat.beq z 88889&&(match c.callee with
   | .value (.func g)=>Nat.beq g y
   | _=>false)))
  | none=>false)
 | _=>false
def Iq(a:List (Nat × Nat × Nat))(o:Oper):Bool:=ab6 o||SE a o
def Zt(P:Program)(l bQ gX:List FuncId)(strict:Oper->Bool)(apart:Array Oper->List (Tmp × Tmp))(kq:Oper->Bool:=λ_=>false):Env := { kq:=kq,P:=P,strict:=strict,apart:=apart,mode:=λf=>if bQ.contains f then (if gX.contains f then 3 else 1) else if gX.contains f then 2 else 0,allowed:=λf=>l.contains f,spec:=λ_ _=>none}
def vl(P:Program)(l bQ gX:List FuncId)(strict:Oper->Bool:=λ_=>false)(apart:Array Oper->List (Tmp × Tmp):=λ_=>[])(kq:Oper->Bool:=λ_=>false)(Cs:List (FuncId × List AV × AV):=[])(wide:Oper->Bool:=λ_=>false)(tz:FuncId->Option TypeId:=λ_=>none)(thrSpec:FuncId->List AV->aa->Option (AV × aa):=λ_ _ _=>none)(sm:MK:=Wg):Env:=
 {kq:=kq,P:=P,strict:=strict,apart:=apart,mode:=λf=>if bQ.contains f then (if gX.contains f then 3 else 1) else if gX.contains f then 2 else 0,allowed:=λf=>l.contains f,spec:=Mb Cs,ok:=De (Zt P l bQ gX strict apart kq),wide:=wide,tz:=tz,thrSpec:=thrSpec,sm:=sm}
noncomputable def Je:MK:=⟨λH H' => @decide (∀q k,H.get q=some k->H'.get q=some k) (Classical.propDecidable _),λH H' h => @of_decide_eq_true _ (Classical.propDecidable _) h⟩
theorem OI{H H':aa}(h : ∀q k,H.get q=some k->H'.get q=some k):Je.f H H'=true := @decide_eq_true _ (Classical.propDecidable _) h
theorem Xf : ∀(n:Nat)(x y:AV),K9 n x y=true->x=y:=by
 intro n
 induction n with
 | zero=>intro x y h;simp[K9]at h
 | succ n a=>
  intro x y h
  unfold K9 at h
  split at h
  ·rw[Nd h]
  ·simp only[aY]at h
   rw[sR a _ _ (lb h.1) h.2]
  ·simp only[aY,decide_eq_true_eq]at h
   rw[sR a _ _ (lb h.1.2) h.2,lb h.1.1.1,h.1.1.2]
  ·cases h
theorem Ws{xs ys:List AV}(h:Wt xs ys=true):xs=ys:=by
 unfold Wt at h
 simp only[aY]at h
 exact sR (Xf 8) _ _ (lb h.1) h.2
theorem YM{P:Program}{T:List (FuncId × List AV × AV)}(b : ∀p∈T,gP P p.1 p.2.1 p.2.2){f:FuncId}{args:List AV}{y:AV}(h:Mb T f args=some y):gP P f args y:=by
 induction T with
 | nil=>cases h
 | cons p T c=>
  obtain⟨g,xs,z⟩:=p
  unfold Mb at h
  split at h
  ·rename_i a
   simp only[aY]at a
   cases h
   have:=b _ (jB ..)
   simp only at this
   rw[<-lb a.1,<-Ws a.2]
   exact this
  ·exact c (λp hp=>b p (iA _ hp)) h
theorem Sg{P:Program}{l bQ gX:List FuncId}{strict:Oper->Bool}{apart:Array Oper->List (Tmp × Tmp)}{kq:Oper->Bool}{Cs:List (FuncId × List AV × AV)}{wide:Oper->Bool}{tz:FuncId->Option TypeId}{thrSpec:FuncId->List AV->aa->Option (AV × aa)}{sm:MK}(hspec : ∀p∈Cs,gP P p.1 p.2.1 p.2.2)(hm:P.follows .mixedOrders=true)(h0:Jj (vl P l bQ gX strict apart kq) l=true)(hover : ∀f t,tz f=some t->B3 P f t)(hthr : ∀f args H y H',thrSpec f args H=some (y,H')->rO P (.fn f) args H y H') :
 (vl P l bQ gX strict apart kq Cs wide tz thrSpec sm).Ok (De (vl P l bQ gX strict apart kq Cs wide tz thrSpec sm)) where
 fns:=by
  intro f hf
  have h:Jj (vl P l bQ gX strict apart kq Cs) l=true:=h0
  have hf':f∈l:=by simpa [vl] using hf
  have:=gy.1 h f hf'
  split at this
  ·rename_i fn hfn
   simp only[aY,dN]at this
   refine⟨fn,hfn,this.1,λc hc=>?_⟩
   have h2:=this.2
   rw[hc]at h2
   exact h2
  ·cases this
 specs:=λf args y h=>YM hspec h
 same:=rfl
 overs:=hover
 thrs:=hthr
 draws:=λops hok _ hpc _ htc nt dep id st st' M ι a w ro Q hr G hO hQ=>by
  rcases HF.1 hok with h1 | h1
  ·exact O0 hm h1 hpc htc hr hO hQ
  ·exact O1 hm h1 hpc htc hr G hO hQ
theorem ajm{P:Program}{l bQ gX:List FuncId}{strict:Oper->Bool}{apart:Array Oper->List (Tmp × Tmp)}{kq:Oper->Bool}{Cs:List (FuncId × List AV × AV)}(a : ∀p∈Cs,gP P p.1 p.2.1 p.2.2)(b:P.follows .mixedOrders=true)(c:Jj (vl P l bQ gX strict apart kq) l=true):(vl P l bQ gX strict apart kq Cs).Ok (De (vl P l bQ gX strict apart kq Cs)):=
 Sg a b c (λf t h=>by cases h) (λf args H y H' h=>by cases h)
theorem agT{E:Env}{ok:Array Oper->Bool}(a:E.Ok ok){n:Nat}{f:FuncId}{args:List AV}{y:AV}(h:cS E (cr E n) f args=some y):gP E.P f args y:=
 Mz a h
theorem Wl{P:Program} : ∀p∈([]:List (FuncId × List AV × AV)),gP P p.1 p.2.1 p.2.2:=λp hp=>by simp at hp
theorem aeu{P:Program}{f:FuncId}{args:List AV}{y:AV}{T:List (FuncId × List AV × AV)}(h:gP P f args y)(a : ∀p∈T,gP P p.1 p.2.1 p.2.2) : ∀p∈(f,args,y) :: T,gP P p.1 p.2.1 p.2.2:=by
 intro p hp
 rcases nB.1 hp with rfl | hp
 ·exact h
 ·exact a p hp
def MC(P:Program)(f:Func):Bool:=match f.resultTypes.toList with
 | [t]=>(match P.underlying t with | some .bool=>true | _=>false)
 | _=>false
theorem Rj{P:Program}{f:Func}(h:MC P f=true) : ∃a,f.resultTypes = #[a]/\P.underlying a=some .bool:=by
 unfold MC at h
 split at h
 ·rename_i t b
  split at h
  ·rename_i c
   exact⟨t,by rw[<-Lk,b],c⟩
  ·cases h
 ·cases h
end Go.Ab
