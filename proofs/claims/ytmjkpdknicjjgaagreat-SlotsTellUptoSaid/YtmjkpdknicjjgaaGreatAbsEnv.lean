/-
  Regions where stores, and what looks at memory at one place, come in any order. No statement of a seat is proved here.
-/
import Derived.ReadAgain
import Derived.OpenShut
import Derived.ChangeSame
import Derived.RowKit
import Derived.JoinedOf
import Derived.Test.YtmjkpdknicjjgaaGreatAbsDrawn
set_option linter.unusedVariables false
set_option linter.unusedSimpArgs false
set_option linter.unusedSectionVars false
set_option linter.unnecessarySimpa false
set_option linter.defProp false
namespace Go.Ab
section
structure aef (E:Env) (ops:Array Oper):Prop extends RegB ops where
 made : ∀(i:Nat)(o:Oper),ops[i]?=some o->cls E o=3->o.dst.isSome=true
 stay : ∀(i:Nat)(o:Oper),ops[i]?=some o->cls E o≠0->cls E o≠3->qF E o=false ->∃t,nr E o=some t /\∀k,jI ops k=some t->k<i
 must : ∀(i j:Nat)(oi oj:Oper),ops[i]?=some oi->ops[j]?=some oj->j<i->qY E oi oj=true->((dT ops.toList []).getD i 0).testBit j=true
 meet : ∀(i j:Nat)(oi oj:Oper),ops[i]?=some oi->ops[j]?=some oj->j<i->DG (cls E oi) (cls E oj)=true->qF E oi=false->qF E oj=false->((dT ops.toList []).getD i 0).testBit j=true\/settled E ops oi oj=true
def E7(E:Env)(o:Oper):cls E o<=4:=by unfold cls;(repeat' split)<;>omega
def ZG{E:Env}{ops:Array Oper}(h:WB E ops=true):aef E ops:=by
 unfold WB at h;rw[bo]at h;replace h:=h.2;simp only[gf,xV]at h;have one : ∀(i:Nat)(o:Oper),ops[i]?=some o->(fA o).all (· < i)=true/\RD E ops i o=true /\∀(j:Nat)(a:Oper),j<i->ops[j]?=some a->PY E ops (dT ops.toList []) o a i j=true:=by
  intro i o e;have hi:i<ops.size:=(jb.1 e).1;have:=h i hi;rw[e]at this;simp only[bo,gf,xV]at this;refine⟨by simpa using this.1.1,this.1.2,λj a d l=>?_⟩;have s:=this.2 j d;rw[l]at s;exact s
 have c : ∀(i j:Nat)(oi a:Oper),ops[i]?=some oi->ops[j]?=some a->j<i->y8 ops (dT ops.toList []) oi a i j=true /\
  (!qY E oi a||((dT ops.toList []).getD i 0).testBit j)=true/\(!DG (cls E oi) (cls E a)||qF E oi||qF E a||((dT ops.toList []).getD i 0).testBit j||settled E ops oi a)=true:=by
  intro i j oi a hi d b;have:=(one i oi hi).2.2 j a b d;unfold PY at this;rw[bo,bo]at this;exact⟨this.1.1,this.1.2,this.2⟩
 refine⟨R6 (λi o e=>(one i o e).1) λi j oi a hi d b=>(c i j oi a hi d b).1,?_,?_,?_,?_⟩;·intro i o e y;have:=(one i o e).2.1;unfold RD at this;rw[y]at this;exact this
 ·intro i o e v u n;have:=(one i o e).2.1;unfold RD at this;have f:Ph ops i (nr E o)=true:=by
   split at this;·exact absurd (by assumption) v
   ·exact absurd (by assumption) u
   rw[n,ze]at this;exact this
  unfold Ph at f;split at f
  ·rename_i t z;refine⟨t,z,λk g=>?_⟩;simp only[gf,xV]at f;have m:k<ops.size:=by
    unfold jI at g;cases q:ops[k]? with
    | none=>rw[q]at g;cases g
    | some x=>exact(jb.1 q).1
   have:=f k m;rw[g]at this;simpa using this
  cases f
 ·intro i j oi a hi d b p;have:=(c i j oi a hi d b).2.1;rw[p]at this;simpa using this
 intro i j oi a hi d b p r1 r2;have:=(c i j oi a hi d b).2.2;rw[p,r1,r2]at this;simpa using this
def Made(H H':aa)(q:Ref):Prop:=H.gen q.d q.t<=q.g/\q.g<H'.gen q.d q.t
structure zd (H H':aa):Prop where
 gen : ∀d t,H.gen d t<=H'.gen d t
 born : ∀q,H'.get q≠none->H.get q≠none\/Made H H' q
 arr : ∀q b b',H.get q=some b->q.g<H.gen q.d q.t->H'.get q=some b'->b'.arr=b.arr
def zd.refl(H:aa):zd H H:=⟨λ_ _=>cG _,λ_ h => .inl h,λq b c h _ a=>by rw[h]at a;cases a;rfl⟩
def zd.keyed(H:aa)(d t:Nat)(bs:List bj):zd H (keyed ⟨d,t,H.gen d t,0⟩ 0 bs H):=by
 refine⟨λn t'=>?_,λq h=>?_,λq b m h l a=>?_⟩
 ·rw[aa.mR];split;·rename_i c;obtain⟨rfl,rfl,_⟩:=c;exact CE _
  exact cG _
 ·rw[aa.nI]at h;unfold tB at h;split at h
  ·rename_i c;obtain⟨g,j,f,k⟩:=c;refine .inr ⟨?_,?_⟩;·rw[g,j,f];exact cG _
   rw[aa.mR,if_pos ⟨g,j,by intro e;rw[e]at k;simp at k⟩,f];exact rJ _
  exact .inl h
 rw[aa.nI]at a;unfold tB at a;split at a;·rename_i c;obtain⟨g,j,f,k⟩:=c;rw[g,j,f]at l;exact absurd l (xq _)
 rw[h]at a;cases a;rfl
def LN{g:cV}{R:List Ref}{q:Ref}{b c:bj}(h:g q=some b)(a:uL g R q=some c):c.arr=b.arr:=by
 unfold uL at a;split at a;·rw[h]at a;simp at a;rw[<-a]
 rw[h]at a;cases a;rfl
def IL{g:cV}{R:List Ref}{q:Ref}:uL g R q≠none->g q≠none:=by
 unfold uL;split;·intro h e;rw[e]at h;exact h rfl
 exact id
def zd.put{H:aa}{R:List Ref}{r:Ref}{b:bj}{es:List AV}(c:(cg H R).get r=some b):zd H ((cg H R).put r (some { b with es})):=by
 refine⟨λd t=>?_,λq h=>?_,λq b1 f h g a=>?_⟩;·rw[aa.ej _ _ _ (by rw[c];rfl),aa.iI];exact cG _
 ·rw[aa.ab]at h;split at h;·rename_i e;subst e;exact .inl (IL (R:=R) (by rw[<-aa.dG,c];simp))
  exact .inl (IL (R:=R) (by rw[<-aa.dG];exact h))
 rw[aa.ab]at a;split at a;·rename_i e;subst e;cases a;rw[aa.dG]at c;exact(LN h c:b.arr=b1.arr)
 rw[aa.dG]at a;exact LN h a
def Mq{P:Program}{H H':aa}{t:TypeId}{a x:Option AV}{y:AV}(h:jy P H t a x=some (y,H')):zd H H':=by
 unfold jy at h;split at h
 ·split at h
  ·rename_i r' i j q n _ b e;obtain⟨⟨f,l,k⟩,h⟩:=eY.1 h;split at h
   ·split at h
    ·rename_i p m;split at h;·cases h
     rename_i c;obtain⟨g,h⟩:=eY.1 h;simp only[bI]at h;obtain⟨es',d,h⟩:=h;cases h;exact zd.put (by rw[aa.dG];unfold uL;rw[if_neg c];exact e)
    cases h
   simp only[bI]at h;obtain⟨es',d,h⟩:=h;cases h;exact zd.put (R:=[]) e
  cases h
 cases h
def B0{P:Program}{H H':aa}{t t':Option TypeId}{s x y:AV}(h:j9 P H t t' s x=some (y,H')) :
 ∃r b z es f,lC s=some r/\H.get r=some b/\b.arr=true/\H'=(⟨r.d,r.t,H.gen r.d r.t,0⟩,some ⟨z,es,true,f⟩) :: H.put r none:=by
 unfold j9 at h;split at h;·cases h
 split at h;·cases h
 split at h
 ·split at h;·cases h
  split at h
  ·split at h;·rename_i r' e len b c;obtain⟨⟨_,a,_⟩,h⟩:=eY.1 h;cases h;exact⟨_,b,_,_,_,rfl,c,a,rfl⟩
   cases h
  cases h
 cases h
def L9{H:aa}{r:Ref}{o:Option bj}(q:Ref):aa.get ((⟨r.d,r.t,H.gen r.d r.t,0⟩,o) :: H.put r none) q=if (⟨r.d,r.t,H.gen r.d r.t,0⟩:Ref)=q then o else if q=r then none else H.get q:=by
 simp only[aa.get,aa.ab]
def Ma{H:aa}{r:Ref}{o:Option bj}(a:(H.get r).isSome=true)(d t:Nat):aa.gen ((⟨r.d,r.t,H.gen r.d r.t,0⟩,o) :: H.put r none) d t=if r.d=d/\r.t=t then H.gen d t+1 else H.gen d t:=by
 simp only[aa.gen];rw[aa.ej _ _ _ a];split;·rename_i h;rw[h.1,h.2]
 rfl
def K6{P:Program}{H H':aa}{t t':Option TypeId}{s x y:AV}(h:j9 P H t t' s x=some (y,H')):zd H H' /\∃r,lC s=some r /\∀q,H'.get q≠H.get q->Made H H' q\/q=r:=by
 obtain⟨r,b,z,es,f,l,p,j,rfl⟩:=B0 h;have k:(H.get r).isSome=true:=by rw[p];rfl
 have a : ∀q,(⟨r.d,r.t,H.gen r.d r.t,0⟩:Ref)=q->Made H ((⟨r.d,r.t,H.gen r.d r.t,0⟩,some ⟨z,es,true,f⟩) :: H.put r none) q:=by
  intro q e;subst e;refine⟨cG _,?_⟩;rw[Ma k,if_pos ⟨rfl,rfl⟩];exact rJ _
 refine⟨⟨λd t=>?_,λq c=>?_,λq b1 u n m g=>?_⟩,r,l,λq c=>?_⟩;·rw[Ma k];split<;>omega
 ·rw[L9]at c;split at c;·rename_i e;exact .inr (a q e)
  split at c;·exact absurd rfl c
  exact .inl c
 ·rw[L9]at g;split at g;·rename_i e;subst e;exact absurd m (xq _)
  split at g;·cases g
  rw[n]at g;cases g;rfl
 rw[L9]at c;split at c;·rename_i e;exact .inl (a q e)
 split at c;·rename_i e;exact .inr e
 exact absurd rfl c
def Seen(g a:cV)(v:AV):Prop :=∀q,lC v=some q->g q≠none->a q=g q
def wX{g c:cV}{v:AV}(h:Seen g c v){q:Ref}(d:lC v=some q){b:bj}(a:g q=some b):c q=some b:=by rw[h q d (by rw[a];simp),a]
def Ih{P:Program}{g e:cV}{t:TypeId}{v x:AV}{bs:List bj}(h:ow P g t (some v)=some (x,bs))(f:Seen g e v):bs=[]/\ow P e t (some v)=some (x,bs):=by
 unfold ow at h ⊢;cases v<;>(try (simp at h;done))
 ·rename_i r i j;cases c:eK P t<;>cases d:aE P t<;>rw[c,d]at h<;>(try (simp at h;done));simp only at h ⊢;cases a:g r with
  | none=>rw[a]at h;simp at h
  | some b=>rw[a]at h;rw[wX f rfl a];exact⟨(rQ h).2,h⟩
 cases c:eK P t<;>cases d:aE P t<;>rw[c,d]at h<;>(try (simp at h;done));exact⟨(rQ h).2,h⟩
def Ah{P:Program}{g m:cV}{t:TypeId}{v x:AV}{d:Option AV}{bs:List bj}(h:bH P g t (some v) d=some (x,bs))(j:Seen g m v):bs=[]/\bH P m t (some v) d=some (x,bs):=by
 unfold bH at h ⊢;cases l:d.bind uo with
 | none=>rw[l]at h;simp at h
 | some k=>
 rw[l]at h;simp only at h ⊢;cases he:ca P t with
 | some e=>
  rw[he]at h;simp only at h ⊢;cases c:aE P e with
  | none=>rw[c]at h;cases v<;>simp at h
  | some z=>
  rw[c]at h;cases v<;>(try (simp at h;done));·simp only at h ⊢;exact⟨by obtain⟨_,h⟩:=eY.1 h;cases h;rfl,h⟩
  ·rename_i r f len cap;simp only at h ⊢;cases a:g r with
   | none=>rw[a]at h;simp at h
   | some b=>rw[a]at h;rw[wX j rfl a];exact⟨by obtain⟨_,h⟩:=eY.1 h;cases h;rfl,h⟩
  rename_i r f len cap;simp only at h ⊢;cases a:g r with
  | none=>rw[a]at h;simp at h
  | some b=>rw[a]at h;rw[wX j rfl a];exact⟨by obtain⟨_,h⟩:=eY.1 h;cases h;rfl,h⟩
 | none=>
  rw[he]at h;simp only at h ⊢;refine⟨?_,h⟩;cases n:ly P t with
  | none=>rw[n]at h;simp at h
  | some p=>
  rw[n]at h;cases c:aE P p.2 with
  | none=>simp only[c]at h;cases v<;>simp at h
  | some z=>
  simp only[c]at h;cases v<;>(try (simp at h;done));·obtain⟨_,h⟩:=eY.1 h;cases h;rfl
  obtain⟨_,h⟩:=eY.1 h;cases h;rfl
def Fx{P:Program}{g l:cV}{t:TypeId}{v x:AV}{lo hi d:Option (Option Int)}{bs:List bj}(h:cr P g t (some v) lo hi d=some (x,bs))(k:Seen g l v):bs=[]/\cr P l t (some v) lo hi d=some (x,bs):=by
 have nil : ∀ {c:Prop} [Decidable c] {o:Option (Nat × Nat × Option Nat)} {f:Nat × Nat × Option Nat->AV × List bj},(∀p,(f p).2=[])->(if c then o.map f else none)=some (x,bs)->bs=[]:=by
  intro c _ o f m h;obtain⟨_,h⟩:=eY.1 h;obtain⟨p,_,h⟩:=bI.1 h;have:=m p;rw[h]at this;exact this
 unfold cr at h ⊢;cases lo<;>cases hi<;>cases d<;>(try (simp at h;done));simp only at h ⊢;cases v<;>(try (simp at h;done))
 ·rename_i y;cases y<;>(try (simp at h;done));·simp only at h ⊢;exact⟨nil (λ_=>rfl) h,h⟩
  split at h;·rename_i e;simp only[ef,AV.v.injEq,Value.slice.injEq]at e;obtain⟨rfl,rfl,rfl⟩:=e;exact⟨nil (λ_=>rfl) h,h⟩
  ·rename_i e;simp at e
  ·rename_i e;simp at e
  ·rename_i e;simp at e
  ·rename_i e;simp at e
  cases h
 ·simp only at h ⊢;exact⟨nil (λ_=>rfl) h,h⟩
 ·rename_i r j len cap;simp only at h ⊢;cases a:g r with
  | none=>rw[a]at h;simp at h
  | some b=>rw[a]at h;rw[wX k rfl a];exact⟨nil (λ_=>rfl) h,h⟩
 rename_i r j len cap;simp only at h ⊢;cases a:g r with
 | none=>rw[a]at h;simp at h
 | some b=>rw[a]at h;rw[wX k rfl a];exact⟨nil (λ_=>rfl) h,h⟩
def LU{g c:cV}{v:AV}{p:Nat × List AV}(h:cy g v=some p)(d:Seen g c v):cy c v=some p:=by
 unfold cy at h ⊢;cases v<;>(try (simp at h;done));·rename_i y;cases y<;>first | exact h | (simp at h;done)
 ·exact h
 rename_i r e len cap;simp only at h ⊢;cases a:g r with
 | none=>rw[a]at h;simp at h
 | some b=>rw[a]at h;rw[wX d rfl a];exact h
def Cg{P:Program}{g f:cV}{r r':Ref}{src dst:TypeId}{v x:AV}{bs:List bj}(hd:dD P dst=false)(h:bY P g r src dst (some v)=some (x,bs))(k:Seen g f v) :
 bs=[]/\bY P f r' src dst (some v)=some (x,bs):=by
 have other : ∀ {y:AV},y=v->(if dD P src&&isStr P dst then
  match cy g y with
  | some (_,es)=>(es.mapM byteOf).map λl=>((AV.v (.string ⟨l.toArray⟩),[]):AV × List bj)
  | none=>none
  else if src == dst&&dD P src then
   match y with
   | .bk r' _ _ _=>(match g r' with
    | some b=>if b.esz=1 then some (y,[]) else none
    | none=>none)
   | _=>none
  else none)=some (x,bs)->bs=[]/\(if dD P src&&isStr P dst then
   match cy f y with
   | some (_,es)=>(es.mapM byteOf).map λl=>((AV.v (.string ⟨l.toArray⟩),[]):AV × List bj)
   | none=>none
  else if src == dst&&dD P src then
   match y with
   | .bk r' _ _ _=>(match f r' with
    | some b=>if b.esz=1 then some (y,[]) else none
    | none=>none)
   | _=>none
  else none)=some (x,bs):=by
  intro y e h;split at h
  ·rename_i j;rw[if_pos j];cases he:cy g y with
   | none=>rw[he]at h;simp at h
   | some p=>rw[he]at h;rw[LU he (e ▸ k)];refine⟨?_,h⟩;obtain⟨_,_,h⟩:=bI.1 h;cases h;rfl
  rename_i j;split at h;·rename_i d;simp only[bo,iQl]at d;rw[d.1,hd]at d;simp at d
  cases h
 unfold bY at h ⊢;cases v;case v y=>
  cases y;case string s=>
   simp only[hd,Eo,eW,iQe]at h ⊢;exact⟨by obtain⟨_,h⟩:=eY.1 h;cases h;rfl,h⟩
  case slice a l c=>
   rcases a with _ | a
   ·rcases l with _ | l
    ·rcases c with _ | c
     ·exact⟨by obtain⟨_,h⟩:=eY.1 h;cases h;rfl,h⟩
     exact⟨(rQ h).2,h⟩
    exact⟨(rQ h).2,h⟩
   exact⟨(rQ h).2,h⟩
  all_goals exact⟨(rQ h).2,h⟩
 all_goals exact other rfl h
def Ey{P:Program}{H H':aa}{d a:Nat}{t:TypeId}{n:Nat}{m:List (Nat × AV)}{x:AV}(h:jV P H ⟨d,a,H.gen d a,0⟩ t n (some m)=some (x,H')):zd H H' /\∀q,H'.get q≠H.get q->Made H H' q\/q∈ct H.get (m.map (·.2)):=by
 simp only[jV,bI]at h;obtain⟨b,z,h⟩:=h;injection h with K u
 subst u;generalize J:ct H.get (m.map (·.2))=R;have f : ∀q,aa.get ((⟨d,a,H.gen d a,0⟩,some b) :: cg H R) q=if (⟨d,a,H.gen d a,0⟩:Ref)=q then some b else uL H.get R q:=by
  intro q;simp only[aa.get,aa.dG]
 have j : ∀k t',aa.gen ((⟨d,a,H.gen d a,0⟩,some b) :: cg H R) k t'=if d=k/\a=t' then H.gen d a+1 else H.gen k t':=by
  intro k t';simp only[aa.gen,aa.iI]
 have c : ∀q,(⟨d,a,H.gen d a,0⟩:Ref)=q->Made H ((⟨d,a,H.gen d a,0⟩,some b) :: cg H R) q:=by
  intro q e;subst e;refine⟨cG _,?_⟩;rw[j,if_pos ⟨rfl,rfl⟩];exact rJ _
 refine⟨⟨λk t'=>?_,λq g=>?_,λq b1 y s p l=>?_⟩,λq g=>?_⟩
 ·rw[j];split;·rename_i e;rw[<-e.1,<-e.2];exact CE _
  exact cG _
 ·rw[f]at g;split at g;·rename_i e;exact .inr (c q e)
  exact .inl (IL g)
 ·rw[f]at l;split at l;·rename_i e;subst e;exact absurd p (xq _)
  exact LN s l
 rw[f]at g;split at g;·rename_i e;exact .inl (c q e)
 unfold uL at g;split at g;·rename_i v;exact .inr v
 exact absurd rfl g
def Du{P:Program}{g d:cV}{t:TypeId}{v x:AV}{k:Option AV}{ok:Bool}{bs:List bj}(h:o4 P g t (some v) k ok=some (x,bs))(l:Seen g d v):bs=[]/\o4 P d t (some v) k ok=some (x,bs):=by
 unfold o4 at h ⊢;cases v<;>(try (simp at h;done));rename_i r;cases f:Pc P t with
 | none=>rw[f]at h;simp at h
 | some p=>
 obtain⟨q,m⟩:=p;cases j:k.bind kH with
 | none=>rw[f,j]at h;simp at h
 | some n=>
 rw[f,j]at h;simp only at h ⊢;cases hm:nT g r with
 | none=>rw[hm]at h;simp at h
 | some a=>
 have e:nT d r=some a:=by
  unfold nT at hm ⊢;cases c:g r with
  | none=>rw[c]at hm;simp at hm
  | some b=>rw[c]at hm;rw[wX l rfl c];exact hm
 rw[e];rw[hm]at h;refine⟨?_,h⟩;simp only at h;split at h
 ·split at h;·obtain⟨_,_,h⟩:=bI.1 h;cases h;rfl
  ·obtain⟨_,_,h⟩:=bI.1 h;cases h;rfl
  cases h
 cases h
def Xv{E:Env}{pc:FuncId->List AV->Option AV}{g j:cV}{tm:List AV}{r:Ref}{o:Oper}(b:blind E o=true){x:AV}{bs:List bj}(h:cQ E pc true g tm r o=some (x,bs)) :
 cQ E pc true j tm r o=some (x,bs):=by
 unfold blind at b;replace b:=(xX.1 b).2;split at b;·rename_i a;unfold cQ at h ⊢;simp only[a]at h ⊢;exact h
 ·rename_i a;unfold cQ at h ⊢;simp only[a]at h ⊢;exact h
 ·rename_i c a;obtain⟨k,d⟩:=xX.1 b;split at d
  ·rename_i f l;have e:c.args.toList=[]:=by simpa using k
   unfold cQ at h ⊢;simp only[a,e,l,zL,KF,sP,aP,k9,sO,ct,Er]at h ⊢;exact h
  cases d
 cases b
def P7{E:Env}{o:Oper}(h:P8 E o=true):blind E o=true:=by
 unfold P8 at h;unfold blind;obtain⟨c,b⟩:=xX.1 h;rw[c,iZ];split at b;·rename_i a;rw[a]
 ·rename_i a;rw[a]
 cases b
def TK{E:Env}{oi a:Oper}(h:blind E oi=false):pd E oi a=false:=by
 unfold pd;cases b:P8 E oi with
 | false=>rfl
 | true=>rw[P7 b]at h;cases h
def pb{E:Env}{oi a:Oper}(h:cls E oi≠3):pd E oi a=false:=by
 unfold pd P8;rw[beq_false_of_ne h];rfl
def TL{E:Env}{oi a:Oper}(h:((I5 a.op).isSome&&a.dst.isSome)=false):pd E oi a=false:=by
 unfold pd;rw[h,Eo]
def P6{E:Env}{pc:FuncId->List AV->Option AV}{g:cV}{tm:List AV}{r:Ref}{o:Oper}(b:P8 E o=true){x:AV}{bs:List bj}(h:cQ E pc true g tm r o=some (x,bs)):bs≠[]:=by
 unfold P8 at b;replace b:=(xX.1 b).2;split at b
 ·rename_i a;unfold cQ at h;simp only[a]at h;unfold vX at h;split at h
  ·split at h;·cases h;simp
   cases h
  cases h
 ·rename_i a;unfold cQ at h;simp only[a]at h;cases h;simp
 cases b
def Su{E:Env}{pc:FuncId->List AV->Option AV}{tc:uY->List AV->aa->cR}{nt dep:Nat}{ops:Array Oper}{o:Oper}{st f:St}{t:Tmp}(a:I5 o.op=some t)(q:wanted ops st.tm o=some true)(h:evalOp E pc tc nt dep true ops o st=some f) :
 (∃x bs tm',cQ E pc true st.hp.get st.tm ⟨dep,o.dst.getD 0,st.hp.gen dep (o.dst.getD 0),0⟩ o=some (x,bs)/\dx nt st.tm o.dst x=some tm'/\f=⟨tm',keyed ⟨dep,o.dst.getD 0,st.hp.gen dep (o.dst.getD 0),0⟩ 0 bs st.hp⟩) \/
 ∃c y z x,o.op = .call c/\c.callee = .builtin .append/\c.args.toList.mapM (aP st.tm)=some [y,z]/\j9 E.P st.hp c.argTypes[0]? c.argTypes[1]? y z=some (x,f.hp)/\y=df st.tm t/\dx nt st.tm o.dst x=some f.tm:=by
 unfold evalOp at h;rw[q]at h;simp only at h;split at h;·rename_i x bs u;simp only[bI]at h;obtain⟨tm',g,rfl⟩:=h;exact .inl ⟨x,bs,tm',u,g,rfl⟩
 split at h;·cases h
 split at h
 ·rename_i x H d;simp only[bI]at h;obtain⟨tm',g,rfl⟩:=h;refine .inr ?_;unfold I5 at a;split at a
  ·rename_i c k;split at a
   ·rename_i n;split at a
    ·rename_i t' rest b;cases a;unfold evalW at d;simp only[k,n,b]at d;cases hm:List.mapM (aP st.tm) (Operand.tmp t :: rest) with
     | none=>rw[hm]at d;simp at d
     | some args=>
      rw[hm]at d;have j:=hm;simp only[nP,aP,sP,tV,eD,iF]at hm;obtain⟨l,v,e⟩:=hm;simp at e;subst e;simp only at d;split at d;·rename_i s y m p;cases p;exact⟨c,_,_,x,k,n,by rw[b];exact j,d,rfl,g⟩
      ·rename_i m p;cases m
      cases d
    cases a
   cases a
  cases a
 cases h
def Nu{E:Env}{pc:FuncId->List AV->Option AV}{g:cV}{tm:List AV}{r:Ref}{o:Oper}{t:Tmp}(d:Cn E.P o.op=some t){x:AV}{bs:List bj}(h:cQ E pc true g tm r o=some (x,bs)) :
 bs=[] /\∀f r',Seen g f (df tm t)->cQ E pc true f tm r' o=some (x,bs):=by
 unfold Cn at d;split at d;·rename_i ty t' a;cases d;unfold cQ at h ⊢;simp only[a]at h ⊢;exact⟨(Ih h (λ_ _ _=>rfl)).1,λf r' e=>(Ih h e).2⟩
 ·rename_i ty t' N a;cases d;unfold cQ at h ⊢;simp only[a]at h ⊢;exact⟨(Ah h (λ_ _ _=>rfl)).1,λf r' e=>(Ah h e).2⟩
 ·rename_i ty t' lo hi L a;cases d;unfold cQ at h ⊢;simp only[a,AD,Eo,iQt]at h ⊢;exact⟨(Fx h (λ_ _ _=>rfl)).1,λf r' e=>(Fx h e).2⟩
 ·rename_i src dst t' a;split at d;·cases d
  rename_i v;cases d;unfold cQ at h ⊢;simp only[a]at h ⊢;have j:dD E.P dst=false:=by simpa using v
  exact⟨(Cg (r':=r) j h (λ_ _ _=>rfl)).1,λf r' e=>(Cg j h e).2⟩
 ·rename_i ty t' k ok a;cases d;unfold cQ at h ⊢;simp only[a]at h ⊢;exact⟨(Du h (λ_ _ _=>rfl)).1,λf r' e=>(Du h e).2⟩
 ·rename_i c a;split at d
  ·rename_i J;split at d
   ·rename_i t' l;cases d;unfold cQ at h ⊢;simp only[a,l,J,nP,KF,aP,sP,tV,eD]at h ⊢;cases z:df tm t with
    | mp q=>
     rw[z]at h;simp only[cb]at h ⊢;obtain⟨hd,h⟩:=OZ.1 h;simp only[if_neg hd];refine⟨?_,λf r' e=>?_⟩
     ·unfold BC at h;split at h;·cases h;rfl
      cases h
     unfold BC at h ⊢;split at h
     ·rename_i p m K s;have y:nT f q=some m:=by
       unfold nT at s ⊢;cases u:g q with
       | none=>rw[u]at s;simp at s
       | some b=>rw[u]at s;rw[wX e rfl u];exact s
      simp only[K,y];exact h
     cases h
    | _=>rw[z]at h;simp only[cb]at h ⊢;refine⟨?_,λf r' e=>h⟩;unfold JB at h;(repeat' split at h)<;>(try simp_all)<;>(try (obtain⟨_,_,_,h⟩:=h;exact h))<;>(try (obtain⟨n,_,h⟩:=iF.1 h;simp at h;exact h.2))
   cases d
  cases d
 cases d
end
section
section
variable{E:Env}{o:Oper}
def IU(h:cls E o=0):xR E o=false:=by
 unfold cls at h;cases a:xR E o with
 | false=>rfl
 | true=>rw[a]at h;simp only[if_true]at h;(repeat' split at h)<;>omega
def LW(h:cls E o=1) : ∃t,Cn E.P o.op=some t/\nr E o=some t/\jv E o=false:=by
 unfold cls at h;split at h
 ·split at h;·cases h
  rename_i d;split at h
  ·rename_i f;obtain⟨t,b⟩:=gT.1 f;refine⟨t,b,?_,?_⟩;·have:storeT o.op=none:=(by simpa using d);simp[nr,this,b]
   unfold jv;have:wOp E o.op=false/\BQ o.op=false:=by
    unfold Cn at b;split at b<;>(try (rename_i a;rw[a];exact⟨rfl,rfl⟩))
    ·rename_i c a;split at b;·rename_i e;rw[a];simp[wOp,BQ,e]
     cases b
    cases b
   rw[this.1,this.2];simp
  split at h<;>cases h
 cases h
def RZ(h:cls E o=2) : ∃ty t x,o.op = .store ty (.tmp t) x/\nr E o=some t:=by
 unfold cls at h;split at h
 ·split at h
  ·rename_i d;obtain⟨t,a⟩:=gT.1 d;have b:=a;unfold storeT at a;split at a;·rename_i ty t' x c;cases a;exact⟨ty,t,x,c,by simp[nr,b]⟩
   cases a
  (repeat' split at h)<;>cases h
 cases h
def BI(h:cls E o=3):xR E o=true/\jv E o=false:=by
 unfold cls at h;split at h
 ·rename_i b;split at h;·cases h
  split at h;·cases h
  split at h;·cases h
  rename_i a;exact⟨b,by simpa using a⟩
 cases h
def Oi(h:cls E o=4):nr E o=if BQ o.op then bsT o.op else Hu o.op:=by
 unfold cls at h;split at h
 ·split at h;·cases h
  rename_i c;split at h;·cases h
  rename_i d;have b:storeT o.op=none:=by simpa using c
  have a:Cn E.P o.op=none:=(by simpa using d);simp[nr,b,a]
 cases h
end
def M9{E:Env}{o:Oper}(h:qF E o=true) : ∃c g,o.op = .call c/\c.callee = .value (.func g)/\E.mode g=2/\E.gR o=true/\E.strict o=false:=by
 unfold qF at h;rw[bo,bo]at h;obtain⟨⟨d,f⟩,a⟩:=h;split at a
 ·rename_i c b;split at a;·rename_i g e;exact⟨c,g,b,e,by simpa using a,d,by simpa using f⟩
  cases a
 cases a
def S8{E:Env}{o:Oper}(h:qF E o=true):cls E o=4/\nr E o=none:=by
 obtain⟨c,g,a,b,hm,n,k⟩:=M9 h;have e:storeT o.op=none:=by rw[a];rfl
 have f:Cn E.P o.op=none:=by rw[a];simp[Cn,b]
 have p:kI o.op=true:=by rw[a];simp[kI,b]
 have d:jv E o=true:=by simp[jv,k,a,wOp,b,hm]
 have l:Hu o.op=none:=by rw[a];simp[Hu,Tt,I5,b]
 have j:BQ o.op=false:=by rw[a];rfl
 refine⟨?_,?_⟩;·have m:xR E o=true:=iH d;simp[cls,e,f,m,d]
 simp[nr,e,f,l,j]
def tl{E:Env}{o:Oper}{t:Tmp}(h:nr E o=some t):qF E o=false:=by
 cases a:qF E o with| false=>rfl| true=>rw[(S8 a).2]at h;cases h
def Wy{E:Env}{pc:FuncId->List AV->Option AV}{tc:uY->List AV->aa->cR}{H H':aa}{tm:List AV}{r:Ref}{o:Oper}{t:Tmp}(f:Tt o.op=some t){x:AV}(h:evalW E pc tc H tm r o=some (x,H')) :
 ∃q a c,lC (df tm t)=some q/\nT H.get q=some a/\H'=H.put q (some (pP c)):=by
 have g : ∀ {ty:TypeId} {m:AV} {k v:Option AV} {y:AV} {H':aa},jz E.P H ty (some m) k v=some (y,H') ->∃q a c,lC m=some q/\nT H.get q=some a/\H'=H.put q (some (pP c)):=by
  intro ty m k v y H' h;unfold jz at h;split at h
  ·rename_i u l q k' z j d;simp only[ef]at d;subst d;split at h
   ·rename_i s a p e;split at h
    ·split at h
     ·split at h;·cases h;exact⟨q,a,_,rfl,e,rfl⟩
      cases h
     ·cases h;exact⟨q,a,_,rfl,e,rfl⟩
     cases h
    cases h
   cases h
  cases h
 unfold Tt at f;split at f;·rename_i b;cases f;unfold evalW at h;simp only[b,aP]at h;exact g h
 ·rename_i b;cases f;unfold evalW at h;simp only[b,aP]at h;exact g h
 ·rename_i ty t' k b;cases f;unfold evalW at h;simp only[b,aP]at h;unfold qR at h;split at h
  ·rename_i u l q k' j d J;split at h
   ·rename_i s a p e;split at h
    ·split at h
     ·split at h;·simp only[bI]at h;obtain⟨v,_,h⟩:=h;cases h;simp only[ef]at d;exact⟨q,a,_,by rw[d];rfl,e,rfl⟩
      cases h
     ·simp only[bI]at h;obtain⟨v,_,h⟩:=h;cases h;simp only[ef]at d;exact⟨q,a,_,by rw[d];rfl,e,rfl⟩
     cases h
    cases h
   cases h
  cases h
 ·rename_i k t' m z b;cases f;unfold evalW at h;simp only[b,aP]at h;unfold lR at h;split at h
  ·rename_i q L n K j d J;split at h
   ·rename_i a e;split at h
    ·split at h;·cases h;simp only[ef]at j;exact⟨q,a,_,by rw[j];rfl,e,rfl⟩
     cases h
    cases h
   cases h
  cases h
 cases f
def Tu{g:cV}{r:Ref}{a:List AV}(h:nT g r=some a) : ∃b,g r=some b/\b.arr=false:=by
 unfold nT at h;split at h;·rename_i e;exact⟨_,e,rfl⟩
 cases h
def zd.map{H:aa}{r:Ref}{c a:List AV}(j:nT H.get r=some c):zd H (H.put r (some (pP a))):=by
 obtain⟨b0,f,g⟩:=Tu j;refine⟨λd t=>?_,λq h=>?_,λq b1 k h l b=>?_⟩;·rw[aa.ej _ _ _ (by rw[f];rfl)];exact cG _
 ·rw[aa.ab]at h;split at h;·rename_i e;subst e;exact .inl (by rw[f];simp)
  exact .inl h
 rw[aa.ab]at b;split at b;·rename_i e;subst e;cases b;rw[f]at h;cases h;rw[g];rfl
 rw[h]at b;cases b;rfl
def XC{E:Env}{pc:FuncId->List AV->Option AV}{tc:uY->List AV->aa->cR}{H H':aa}{tm:List AV}{r:Ref}{o:Oper}{t:Tmp}(a:I5 o.op=some t){x:AV}(h:evalW E pc tc H tm r o=some (x,H')) :
 ∃j k y z,lC y=lC (df tm t)/\j9 E.P H j k y z=some (x,H'):=by
 unfold I5 at a;split at a
 ·rename_i c d;split at a
  ·rename_i m;split at a
   ·rename_i t' rest b;cases a;unfold evalW at h;simp only[d,m,b]at h;cases hm:List.mapM (aP tm) (Operand.tmp t :: rest) with
    | none=>rw[hm]at h;simp at h
    | some args=>
     rw[hm]at h;simp only[nP,aP,sP,tV,eD,iF]at hm;obtain⟨l,a,e⟩:=hm;simp at e;subst e;simp only at h;split at h;·rename_i s y f g;cases g;exact⟨_,_,_,_,rfl,h⟩
     ·rename_i f g;cases f
     cases h
   cases a
  cases a
 cases a
def O5{P:Program}{H H':aa}{t:TypeId}{a x:Option AV}{y:AV}(h:jy P H t a x=some (y,H'))(d k:Nat):H'.gen d k=H.gen d k:=by
 unfold jy at h;split at h
 ·split at h
  ·rename_i r' i j u n _ b f;obtain⟨⟨g,p,m⟩,h⟩:=eY.1 h;split at h
   ·split at h
    ·rename_i s q;split at h;·cases h
     rename_i c;obtain⟨l,h⟩:=eY.1 h;simp only[bI]at h;obtain⟨es',e,h⟩:=h;cases h;rw[aa.ej _ _ _ (by rw[aa.dG];unfold uL;rw[if_neg c,f];rfl),aa.iI]
    cases h
   simp only[bI]at h;obtain⟨es',e,h⟩:=h;cases h;rw[aa.ej _ _ _ (by rw[f];rfl)]
  cases h
 cases h
def ML{P:Program}{M:Mem}{ι:Map}{g:cV}{w:World}(q:gS M ι g w){t:TypeId}{n:Nat}(K:aE P t=some n){r:Ref}{i j:Nat}{x:AV}{v a:Value}(S:VR M ι (.ptr r i j) v)(z:VR M ι x a)
 {b:bj} (s:g r=some b) (O:x.cells.length=n) (p:x.cells.all AV.one=true) (m:b.gR=false) (d:b.arr=false) {es':List AV} (k:fm b.es i j x.cells=some es') :
 ∃w',(Instr.storeAt t v a).run P w = .ok () w'/\gS M ι (mf g r { b with es:=es'}) w'/\uS M ι g w M ι (mf g r { b with es:=es'}) w':=by
 cases S with | ptr u e=>
 rename_i l;have h:=q.at u e s;have c:=z.cells;have f:a.cells.size=n:=by have:=c.1;simp at this;omega
 obtain⟨arr,T,fz,Q,J,R,y,N,L⟩:=GZ q s u e m k p (us:=a.cells.toList) (by rw[bj.map,if_neg (by simp[d])];exact c);refine⟨ck w l.b (.cells (cP arr (i * b.esz+j) a.cells.toList) T fz),?_,N,L⟩;rw[h.esz];exact AN K f Q J R y
section
variable{E:Env}{pc:FuncId->List AV->Option AV}{tc:uY->List AV->aa->cR}{nt dep:Nat}{ops:Array Oper}{sts:Nat->St}
variable(C:aef E ops)(A : ∀i o,ops[i]?=some o->evalOp E pc tc nt dep true ops o (sts i)=some (sts (i+1)))
abbrev makes(sts:Nat->St)(j:Nat)(q:Ref):Prop:=Made (sts j).hp (sts (j+1)).hp q
abbrev turns(sts:Nat->St)(j:Nat)(q:Ref):Prop:=(sts (j+1)).hp.get q≠(sts j).hp.get q
theorem YE{o:Oper}{st b:St}{t:Tmp}(a:bsT o.op=some t)(h:evalOp E pc tc nt dep true ops o st=some b) :
 b.hp=st.hp\/(∃bs,b.hp=keyed ⟨dep,o.dst.getD 0,st.hp.gen dep (o.dst.getD 0),0⟩ 0 bs st.hp) \/∃c n i x,jV E.P st.hp ⟨dep,o.dst.getD 0,st.hp.gen dep (o.dst.getD 0),0⟩ c n (some [(i,df st.tm t)])=some (x,b.hp):=by
 unfold evalOp at h;split at h;·cases h
 ·simp only[bI]at h;obtain⟨tm',f,rfl⟩:=h;exact .inl rfl
 split at h;·rename_i x bs j;simp only[bI]at h;obtain⟨tm',f,rfl⟩:=h;exact .inr (.inl ⟨bs,rfl⟩)
 split at h;·cases h
 split at h
 ·rename_i x H d;simp only[bI]at h;obtain⟨tm',f,rfl⟩:=h;unfold bsT at a;split at a
  ·rename_i c n ps g;split at a;·rename_i i t' e;cases a;unfold evalW at d;simp only[g,e]at d;exact .inr (.inr ⟨c,n,i,x,d⟩)
   cases a
  cases a
 cases h
theorem Bu{o:Oper}{st c:St}(a:cls E o=0\/cls E o=1)(h:evalOp E pc tc nt dep true ops o st=some c):c.hp=st.hp:=by
 rcases oN h with ⟨_,tm',d,he⟩ | ⟨_,x,bs,e,tm',d,he⟩ | b
 ·rw[he]
 ·rw[he];rcases a with a | a
  ·rw[(yN (IU a) e).1];rfl
  obtain⟨t,d,_,_⟩:=LW a;rw[(Nu d e).1];rfl
 rcases a with a | a
 ·have:=IU a;rw[iH b]at this;cases this
 obtain⟨t,d,_,hw⟩:=LW a;rw[hw]at b;cases b
theorem HD{o:Oper}{st a:St}{ty:TypeId}{t:Tmp}{xo:Operand}(b:o.op = .store ty (.tmp t) xo)(h:evalOp E pc tc nt dep true ops o st=some a)(d:wanted ops st.tm o=some true) :
 ∃y,jy E.P st.hp ty (some (df st.tm t)) (aP st.tm xo)=some (y,a.hp)/\dx nt st.tm o.dst y=some a.tm:=by
 unfold evalOp at h;rw[d]at h;have e:cQ E pc true st.hp.get st.tm ⟨dep,o.dst.getD 0,st.hp.gen dep (o.dst.getD 0),0⟩ o=none:=by unfold cQ;simp only[b]
 rw[e]at h;simp only at h;split at h;·cases h
 split at h;·rename_i x H c;simp only[bI]at h;obtain⟨tm',f,rfl⟩:=h;unfold evalW at c;simp only[b]at c;exact⟨x,c,f⟩
 cases h
theorem step_map{o:Oper}{st a:St}{t:Tmp}(d:Tt o.op=some t)(h:evalOp E pc tc nt dep true ops o st=some a) :
 a.hp=st.hp\/(∃bs,a.hp=keyed ⟨dep,o.dst.getD 0,st.hp.gen dep (o.dst.getD 0),0⟩ 0 bs st.hp) \/∃q c b,lC (df st.tm t)=some q/\nT st.hp.get q=some c/\a.hp=st.hp.put q (some (pP b)):=by
 unfold evalOp at h;split at h;·cases h
 ·simp only[bI]at h;obtain⟨tm',e,rfl⟩:=h;exact .inl rfl
 split at h;·rename_i x bs g;simp only[bI]at h;obtain⟨tm',e,rfl⟩:=h;exact .inr (.inl ⟨bs,rfl⟩)
 split at h;·cases h
 split at h;·rename_i x H f;simp only[bI]at h;obtain⟨tm',e,rfl⟩:=h;exact .inr (.inr (Wy d f))
 cases h
theorem Ss{o:Oper}{st e:St}(k:qF E o=true)(h:evalOp E pc tc nt dep true ops o st=some e):e.hp=st.hp:=by
 obtain⟨c,g,d,f,hm,j,m⟩:=M9 k;unfold evalOp at h;split at h;·cases h
 ·simp only[bI]at h;obtain⟨tm',l,rfl⟩:=h;rfl
 split at h
 ·rename_i x bs b;exfalso;unfold cQ at b;simp only[d,f]at b;split at b;·cases b
  simp only[zL,aP,k9,hm,if_true,AG]at b;cases b
 split at h;·cases h
 split at h
 ·rename_i x H a;simp only[bI]at h;obtain⟨tm',l,rfl⟩:=h;unfold evalW at a;simp only[d,f]at a;split at a;·cases a
  rw[j]at a;cases hw:nn E pc tc st.hp ⟨dep,o.dst.getD 0,st.hp.gen dep (o.dst.getD 0),0⟩ (aP st.tm (.func g)) _ with
  | none=>rw[hw]at a;simp[sS]at a
  | some p=>
   obtain⟨y,H'⟩:=p;rw[hw]at a;unfold sS at a;simp only at a;split at a;·cases a;rfl
   cases a
 cases h
theorem Vc{o:Oper}{st a:St}{t:Tmp}(d:I5 o.op=some t)(h:evalOp E pc tc nt dep true ops o st=some a) :
 a.hp=st.hp\/(∃bs,a.hp=keyed ⟨dep,o.dst.getD 0,st.hp.gen dep (o.dst.getD 0),0⟩ 0 bs st.hp) \/∃b c y z x,lC y=lC (df st.tm t)/\j9 E.P st.hp b c y z=some (x,a.hp):=by
 unfold evalOp at h;split at h;·cases h
 ·simp only[bI]at h;obtain⟨tm',e,rfl⟩:=h;exact .inl rfl
 split at h;·rename_i x bs k;simp only[bI]at h;obtain⟨tm',e,rfl⟩:=h;exact .inr (.inl ⟨bs,rfl⟩)
 split at h;·cases h
 split at h;·rename_i x H f;simp only[bI]at h;obtain⟨tm',e,rfl⟩:=h;obtain⟨b,c,y,z,g,j⟩:=XC d f;exact .inr (.inr ⟨b,c,y,z,x,g,j⟩)
 cases h
theorem IC{H:aa}{d t:Nat}{bs:List bj}{q:Ref}(h:(keyed ⟨d,t,H.gen d t,0⟩ 0 bs H).get q≠H.get q):Made H (keyed ⟨d,t,H.gen d t,0⟩ 0 bs H) q:=by
 rw[aa.nI]at h;unfold tB at h;split at h
 ·rename_i g;obtain⟨a,c,f,b⟩:=g;refine⟨?_,?_⟩;·rw[a,c,f];exact cG _
  rw[aa.mR,if_pos ⟨a,c,by intro e;rw[e]at b;simp at b⟩,f];exact rJ _
 exact absurd rfl h
include A in
theorem Lk{i n:Nat}(a:i<=n)(g:n<=ops.size){t:Tmp}(f : ∀k,jI ops k=some t->k<i):df (sts n).tm t=df (sts i).tm t:=by
 induction n with| zero=>rw[GC.1 a]| succ n d=>
  rcases fl n i with h | h
  ·rw[show i=n+1 by omega]
  have b:=kD (show n<ops.size from g);obtain⟨x,c⟩:=MN (A n _ b);rw[wW c,if_neg,d h (by omega)];intro e;have:=f n (by simp[jI,b,e]);omega
variable(B:ops.toList.all (IZ E (sts ops.size))=true)
include C A B
theorem Hy{i:Nat}{o:Oper}(O:ops[i]?=some o):zd (sts i).hp (sts (i+1)).hp/\(cls E o<3 ->∀d t,(sts (i+1)).hp.gen d t=(sts i).hp.gen d t) /\
 (cls E o≠2 ->∀q,turns sts i q->makes sts i q\/cls E o=4 /\∃t,nr E o=some t/\lC (df (sts i).tm t)=some q):=by
 have h:=A i o O;have hle:=E7 E o;have T:cls E o=0\/cls E o=1\/cls E o=2\/cls E o=3\/cls E o=4:=by omega
 have same:(sts (i+1)).hp=(sts i).hp->zd (sts i).hp (sts (i+1)).hp/\(cls E o<3 ->∀d t,(sts (i+1)).hp.gen d t=(sts i).hp.gen d t) /\
  (cls E o≠2 ->∀q,turns sts i q->makes sts i q\/cls E o=4 /\∃t,nr E o=some t/\lC (df (sts i).tm t)=some q):=by
  intro e;refine⟨by rw[e];exact zd.refl _,λ_ d t=>by rw[e],λ_ q f=>?_⟩;unfold turns at f;rw[e]at f;exact absurd rfl f
 rcases T with c | c | c | c | c
 ·exact same (Bu (.inl c) h)
 ·exact same (Bu (.inr c) h)
 ·obtain⟨ty,t,x,V,hs⟩:=RZ c;cases u:wanted ops (sts i).tm o with
  | none=>unfold evalOp at h;rw[u]at h;cases h
  | some b=>
   cases b with| false=>unfold evalOp at h;rw[u]at h;simp only[bI]at h;obtain⟨tm',_,e⟩:=h;exact same (by rw[<-e])| true=>obtain⟨y,Z,_⟩:=HD V h u;exact⟨Mq Z,λ_ d t=>O5 Z d t,λhn=>absurd c hn⟩
 ·have Q:=(BI c).2;rcases oN h with ⟨_,tm',m,he⟩ | ⟨_,x,bs,f,tm',m,he⟩ | p
  ·exact same (by rw[he])
  ·have e:(sts (i+1)).hp=keyed ⟨dep,o.dst.getD 0,(sts i).hp.gen dep (o.dst.getD 0),0⟩ 0 bs (sts i).hp:=(by rw[he]);refine⟨by rw[e];exact zd.keyed _ _ _ _,λl=>by omega,λ_ q f => .inl ?_⟩;unfold turns at f;unfold makes;rw[e]at f ⊢;exact IC f
  rw[Q]at p;cases p
 cases N:qF E o with| true=>exact same (Ss N h)| false=>
 obtain⟨t,m,W⟩:=C.stay i o O (by omega) (by omega) N;have R : ∀bs,(sts (i+1)).hp=keyed ⟨dep,o.dst.getD 0,(sts i).hp.gen dep (o.dst.getD 0),0⟩ 0 bs (sts i).hp->zd (sts i).hp (sts (i+1)).hp/\(cls E o<3 ->∀d t,(sts (i+1)).hp.gen d t=(sts i).hp.gen d t) /\
  (cls E o≠2 ->∀q,turns sts i q->makes sts i q\/cls E o=4 /\∃t,nr E o=some t/\lC (df (sts i).tm t)=some q):=by
  intro bs e;refine⟨by rw[e];exact zd.keyed _ _ _ _,λl=>by omega,λ_ q f => .inl ?_⟩;unfold turns at f;unfold makes;rw[e]at f ⊢;exact IC f
 cases L:BQ o.op with
 | false=>
  have j:Hu o.op=some t:=by rw[Oi c,L]at m;simpa using m
  cases s:Tt o.op with
  | some t'=>
   have e':t'=t:=by unfold Hu at j;rw[s]at j;simpa using j
   subst e';rcases step_map s h with e | ⟨bs,e⟩ | ⟨q,ents,S,f,hm,e⟩
   ·exact same e
   ·exact R bs e
   refine⟨by rw[e];exact zd.map hm,λl=>by omega,λ_ q' g => .inr ⟨c,t',m,?_⟩⟩;unfold turns at g;rw[e,aa.ab]at g;split at g;·rename_i e2;subst e2;exact f
   exact absurd rfl g
  | none=>
  have G:I5 o.op=some t:=by unfold Hu at j;rw[s]at j;exact j
  rcases Vc G h with e | ⟨bs,e⟩ | ⟨t1,t2,y,z,x,hy,U⟩
  ·exact same e
  ·exact R bs e
  obtain⟨hm,r,hr,f⟩:=K6 U;refine⟨hm,λl=>by omega,λ_ q g=>?_⟩;rcases f q g with k | k
  ·exact .inl k
  subst k;exact .inr ⟨c,t,m,by rw[<-hy];exact hr⟩
 | true=>
  have K:bsT o.op=some t:=by rw[Oi c,L]at m;simpa using m
  rcases YE K h with e | ⟨bs,e⟩ | ⟨t1,n,i',x,U⟩
  ·exact same e
  ·exact R bs e
  obtain⟨hm,f⟩:=Ey U;refine⟨hm,λl=>by omega,λ_ q g=>?_⟩;rcases f q g with k | k
  ·exact .inl k
  refine .inr ⟨c,t,m,?_⟩;have X:(E.gR o&&BQ o.op)=true:=by
   have u:jv E o=true:=by
    unfold cls at c;split at c
    ·split at c;·cases c
     split at c;·cases c
     split at c;·assumption
     cases c
    cases c
   unfold jv at u;rcases GR.1 u with J | J
   ·exfalso;replace J:=(xX.1 J).2;unfold BQ at L;split at L;·rename_i Y;rw[Y]at J;cases J
    cases L
   exact J
  have hi:i<ops.size:=(jb.1 O).1;have a:=gf.1 B o (dJ (i:=i) (by simpa using O));unfold IZ at a;rw[X,K]at a;simp only[AD,ze]at a;rw[Lk A (iY hi) (cG ops.size) W]at a;simp only[xp,El,ct,mz,Er,rI]at k;revert a k;generalize df (sts i).tm t=v;intro a k;cases v with
  | bk r off len cap=>simp only[ah,depth,mA]at k;rw[k];rfl
  | v y=>simp[ah,depth]at k
  | _=>cases a
theorem sT{i n:Nat}(a:i<=n)(c:n<=ops.size)(d t:Nat):(sts i).hp.gen d t<=(sts n).hp.gen d t:=by
 induction n with| zero=>rw[GC.1 a];exact cG _| succ n b=>
  rcases fl n i with h | h
  ·rw[show i=n+1 by omega];exact cG _
  exact wQ (b h (by omega)) ((Hy C A B (kD (show n<ops.size from c))).1.gen d t)
theorem Pe{M:Mem}{ι:Map}{w:World}(F:gS M ι (sts 0).hp.get w)(D:s9 ι (sts 0).hp){n:Nat}(f:n<=ops.size) : ∀q,(sts n).hp.get q≠none->q.g<(sts n).hp.gen q.d q.t:=by
 induction n with
 | zero=>
  intro q h;cases b:(sts 0).hp.get q with
  | none=>exact absurd b h
  | some k=>obtain⟨l,j,_⟩:=F.live q k b;exact D q l j
 | succ n e=>
  intro q h;have c:=(Hy C A B (kD (show n<ops.size from f))).1;rcases c.born q h with a | a
  ·exact Ay (e (by omega) q a) (c.gen _ _)
  exact a.2
theorem agi{M:Mem}{ι:Map}{w:World}(F:gS M ι (sts 0).hp.get w)(D:s9 ι (sts 0).hp){i:Nat}{r:Ref}{b:bj}(e:(sts i).hp.get r=some b){n:Nat}(g:i<=n)(m:n<=ops.size) : ∀a,(sts n).hp.get r=some a->a.arr=b.arr:=by
 induction n with| zero=>intro a h;rw[GC.1 g]at e;rw[e]at h;cases h;rfl| succ n p=>
  intro a h;rcases fl n i with q | c
  ·rw[show i=n+1 by omega]at e;rw[e]at h;cases h;rfl
  have l:=(Hy C A B (kD (show n<ops.size from m))).1;rcases l.born r (by rw[h];simp)with f | f
  ·cases j:(sts n).hp.get r with
   | none=>exact absurd j f
   | some k=>rw[l.arr r k a j (Pe C A B F D (by omega) r f) h];exact p c (by omega) k j
  have u:=Pe C A B F D (show i<=ops.size by omega) r (by rw[e];simp);have s:=sT C A B c (by omega) r.d r.t;have:=f.1;omega
theorem EW{j b:Nat}{q:Ref}(f:j<ops.size)(c:b<ops.size)(h:makes sts j q)(e:makes sts b q):j=b:=by
 rcases CG j b with a | rfl | a
 ·have:=sT C A B (show j+1<=b from a) (iY c) q.d q.t;have:=h.2;have:=e.1;omega
 ·rfl
 have:=sT C A B (show b+1<=j from a) (iY f) q.d q.t;have:=e.2;have:=h.1;omega
theorem AR{j:Nat}{q:Ref}{o:Oper}(c:ops[j]?=some o)(h:makes sts j q):3<=cls E o:=by
 rcases fl (cls E o) 3 with a | b
 ·have:=(Hy C A B c).2.1 a q.d q.t;have e:=h.1;have f:=h.2;omega
 exact b
variable{M:Mem}{ι:Map}{w:World}
variable(F:gS M ι (sts 0).hp.get w)(D:s9 ι (sts 0).hp)(G:(sj E ops).all (Fw (sts ops.size).tm)=true)(I:ops.toList.all (yC (sts ops.size))=true)
include F D I
theorem Rc{i:Nat}{o:Oper}(h:ops[i]?=some o)(T:cls E o=2)(K:wanted ops (sts i).tm o=some true) :
 ∃ty t xo r k j b x n es',o.op = .store ty (.tmp t) xo/\nr E o=some t/\df (sts i).tm t = .ptr r k j/\(sts i).hp.get r=some b/\b.arr=false/\b.gR=false/\aP (sts i).tm xo=some x/\aE E.P ty=some n /\
  x.cells.length=n/\x.cells.all AV.one=true/\fm b.es k j x.cells=some es'/\(sts (i+1)).hp=(sts i).hp.put r (some { b with es:=es'})/\dx nt (sts i).tm o.dst AV.undef=some (sts (i+1)).tm:=by
 have hi:i<ops.size:=(jb.1 h).1;obtain⟨ty,t,xo,f,m⟩:=RZ T;obtain⟨y,c,N⟩:=HD f (A i o h) K;obtain⟨t',g,s⟩:=C.stay i o h (by omega) (by omega) (tl m);rw[m]at g;cases g;have e:=Lk A (iY hi) (cG ops.size) s;have a:=gf.1 I o (dJ (i:=i) (by simpa using h));unfold yC at a;rw[f]at a;simp only[e]at a;have O:=c;unfold jy at c;split at c
 ·rename_i r' k j S n v V R;simp only[ef]at v;rw[v]at a;simp only at a;split at c
  ·rename_i b J;obtain⟨⟨l,z,u⟩,c⟩:=eY.1 c;have d:b.arr=false:=by
    split at a;·rename_i L q;rw[<-agi C A B F D J (iY hi) (cG _) L q];simpa using a
    cases a
   rw[if_neg (by simp[d])]at c;simp only[bI]at c;obtain⟨es',p,c⟩:=c;injection c with Q U
   subst Q;exact⟨ty,t,xo,r',k,j,b,S,n,es',f,m,v,J,d,u,V,R,l,z,p,U.symm,N⟩
  cases c
 cases c
theorem Hw{j:Nat}{o:Oper}(a:ops[j]?=some o){q:Ref}(h:turns sts j q):makes sts j q\/(cls E o=2\/cls E o=4) /\∃t,nr E o=some t/\lC (df (sts j).tm t)=some q:=by
 by_cases d:cls E o=2
 ·cases hw:wanted ops (sts j).tm o with| none=>have:=A j o a;unfold evalOp at this;rw[hw]at this;cases this| some b=>
   cases b with
   | false=>have:=A j o a;unfold evalOp at this;rw[hw]at this;simp only[bI]at this;obtain⟨tm',_,e⟩:=this;unfold turns at h;rw[<-e]at h;exact absurd rfl h
   | true=>
    obtain⟨ty,t,xo,r,s,m,b,x,n,es',g,f,l,p,_,_,_,_,_,_,_,he,_⟩:=Rc C A B F D I a d hw;refine .inr ⟨.inl d,t,f,?_⟩;unfold turns at h;rw[he,aa.ab]at h;split at h;·rename_i e;subst e;rw[l];rfl
    exact absurd rfl h
 rcases(Hy C A B a).2.2 d q h with c | ⟨c,k⟩
 ·exact .inl c
 exact .inr ⟨.inr c,k⟩
omit A F D I C B in
theorem Wj{L:Nat->Bool}(f:qM ops L){i:Nat}{o:Oper}(l:ops[i]?=some o)(hi:L i=false)(d : ∀e∈fA o,L e=true){j:Nat}{c:Oper}(b:ops[j]?=some c)
 (h:j<i->((dT ops.toList []).getD i 0).testBit j=true) (m:i<j->((dT ops.toList []).getD j 0).testBit i=true):(L j=true↔j<i):=by
 constructor
 ·intro g;rcases CG j i with a | rfl | a
  ·exact a
  ·rw[hi]at g;cases g
  have:=wx f j c b (λe k=>f j c g b e k) i (m a);rw[hi]at this;cases this
 intro a;exact wx f i o l d j (h a)
omit F D I B in
include G in
theorem Wi{L:Nat->Bool}(U:qM ops L){i:Nat}{o:Oper}(s:ops[i]?=some o)(hi:L i=false)(z : ∀e∈fA o,L e=true)(g:cls E o=1\/cls E o=2){t:Tmp}(v:nr E o=some t){q:Ref}(x:lC (df (sts i).tm t)=some q)
 {j:Nat} {m:Oper} (k:ops[j]?=some m) (f:cls E m=2\/cls E m=4) {t':Tmp} (l:nr E m=some t') (n:lC (df (sts j).tm t')=some q):(L j=true↔j<i):=by
 have K:i<ops.size:=(jb.1 s).1;have J:j<ops.size:=(jb.1 k).1;obtain⟨t1,Q,s1⟩:=C.stay i o s (by omega) (by omega) (tl v);obtain⟨t2,R,s2⟩:=C.stay j m k (by omega) (by omega) (tl l);rw[v]at Q;cases Q;rw[l]at R;cases R;have T:=Lk A (iY K) (cG ops.size) s1;have V:=Lk A (iY J) (cG ops.size) s2;rw[<-T]at x;rw[<-V]at n;have S : ∀a b,nr E a=some t->nr E b=some t' ->¬(settled E ops a b=true):=by
  intro a b O N c;unfold settled at c;rw[O,N]at c;simp only[jH,KT]at c;have d:=gf.1 G;rcases c with c | c
  ·have:=d _ c;unfold Fw at this;simp only[x,n]at this;simp at this
  have:=d _ c;unfold Fw at this;simp only[x,n]at this;simp at this
 have y : ∀a b,nr E a=some t'->nr E b=some t ->¬(settled E ops a b=true):=by
  intro a b O N c;unfold settled at c;rw[O,N]at c;simp only[jH,KT]at c;have d:=gf.1 G;rcases c with c | c
  ·have:=d _ c;unfold Fw at this;simp only[x,n]at this;simp at this
  have:=d _ c;unfold Fw at this;simp only[x,n]at this;simp at this
 refine Wj U s hi z k (λp=>?_) (λp=>?_)
 ·by_cases u:DG (cls E o) (cls E m)=true
  ·rcases C.meet i j o m s k p u (tl v) (tl l)with h | h
   ·exact h
   exact absurd h (S o m v l)
  refine C.must i j o m s k p ?_;unfold qY blind;rcases g with g | g<;>rcases f with f | f<;>rw[g,f]at u ⊢ <;> first | rfl | exact absurd rfl u
 by_cases u:DG (cls E m) (cls E o)=true
 ·rcases C.meet j i m o k s p u (tl l) (tl v)with h | h
  ·exact h
  exact absurd h (y m o l v)
 refine C.must j i m o k s p ?_;unfold qY blind;rcases g with g | g<;>rcases f with f | f<;>rw[g,f]at u ⊢ <;> first | rfl | exact absurd rfl u
omit A F D I B in
theorem uf{L:Nat->Bool}(u:qM ops L){i:Nat}{o:Oper}(l:ops[i]?=some o)(hi:L i=false)(m : ∀e∈fA o,L e=true)(s:3<=cls E o)
 {j:Nat} {d:Oper} (f:ops[j]?=some d) (p:blind E o=false\/cls E d≠2) (k:pd E o d=false/\pd E d o=false) (c:cls E d=2\/cls E d=4\/cls E o=4/\3<=cls E d):(L j=true↔j<i):=by
 have v:=E7 E o;have x:=E7 E d;have q:qY E o d=true/\qY E d o=true:=by
  unfold qY;rw[k.1,k.2];have a:cls E o=3\/cls E o=4:=by omega
  rcases c with c | c | ⟨n,c⟩
  ·have t:=p.resolve_right (λh=>h c);rcases a with a | a<;>rw[a,c,t]<;>exact⟨rfl,rfl⟩
  ·rcases a with a | a<;>rw[a,c]<;>simp
  have b:cls E d=3\/cls E d=4:=(by omega);rcases b with b | b<;>rw[n,b]<;>simp
 exact Wj u l hi m f (λg=>C.must i j o d l f g q.1) (λg=>C.must j i d o f l g q.2)
end
end
section
section
variable{E:Env}{pc:FuncId->List AV->Option AV}{tc:uY->List AV->aa->cR}{nt dep:Nat}{ops:Array Oper}{sts:Nat->St}
variable(C:aef E ops)(A : ∀i o,ops[i]?=some o->evalOp E pc tc nt dep true ops o (sts i)=some (sts (i+1)))
variable{M:Mem}{ι:Map}{w:World}{ds:List Deferred}
structure XP (E:Env) (ops:Array Oper) (sts:Nat->St) (M:Mem) (ι:Map) (w:World) (L:Nat->Bool) (M1:Mem) (ι1:Map) (g1:cV) (c:Nat) (w1:World):Prop where
 sim:gS M1 ι1 g1 w1
 fwd:uS M ι (sts 0).hp.get w M1 ι1 g1 w1
 le:c<=ops.size
 cut : ∀j o,j<c->ops[j]?=some o->3<=cls E o->L j=true
 hand : ∀q,ι1 q≠none->q.g<(sts c).hp.gen q.d q.t \/∃j,j<ops.size/\L j=true/\c<=j/\makes sts j q
 get : ∀q,∃n,n<=ops.size/\g1 q=(sts n).hp.get q /\∀j,j<ops.size->turns sts j q->(L j=true↔j<n)
structure XQ (E:Env) (nt:Nat) (ops:Array Oper) (sts:Nat->St) (M:Mem) (ι:Map) (w:World) (ds:List Deferred) (L:Nat->Bool) (a1:Act) (w1:World):Prop where
 closed:qM ops L
 defers:a1.defers=ds
 at_ : ∃M1 ι1 tm1 g1 c,TS ops sts L tm1/\TR M1 ι1 tm1 a1/\a1.tmps.size=nt/\XP E ops sts M ι w L M1 ι1 g1 c w1
theorem Cd{a b:Nat}{q:Ref}(h:a<=b)(d : ∀j,a<=j->j<b ->¬turns sts j q):(sts b).hp.get q=(sts a).hp.get q:=by
 induction b with| zero=>rw[GC.1 h]| succ b f=>
  rcases fl b a with g | c
  ·rw[show a=b+1 by omega]
  have:=d b c (rJ b);unfold turns at this;rw[wT.1 this];exact f c λj e k=>d j e (by omega)
theorem XP.Ox{L:Nat->Bool}{t:Mem}{f:Map}{l:cV}{c:Nat}{p:World}(h:XP E ops sts M ι w L t f l c p){q:Ref}{i:Nat}(hi:i<=ops.size)(k : ∀j,j<ops.size->turns sts j q->(L j=true↔j<i)):l q=(sts i).hp.get q:=by
 obtain⟨n,u,e,m⟩:=h.get q;rw[e];rcases Nat.le_total n i with hle | hle
 ·exact(Cd hle λj s g d=>by
   have a:=m j (by omega) d;have b:=k j (by omega) d;have:=a.1 (b.2 g);omega).symm
 exact Cd hle λj s g d=>by
  have a:=m j (by omega) d;have b:=k j (by omega) d;have:=b.1 (a.2 g);omega
variable(B:ops.toList.all (IZ E (sts ops.size))=true)
include C A B
theorem DJ{L:Nat->Bool}{x:Mem}{e:Map}{z:cV}{c:Nat}{u:World}(F:gS M ι (sts 0).hp.get w)(D:s9 ι (sts 0).hp)(h:XP E ops sts M ι w L x e z c u){i:Nat}(m:i<ops.size)(hi:L i=false){q:Ref}
 (y:(sts i).hp.get q≠none) (J:e q≠none) {j:Nat} (a:j<ops.size) (k:makes sts j q):(L j=true↔j<i):=by
 constructor
 ·intro b;rcases fl j i with f | l
  ·exact f
  have v:=Pe C A B F D (iY m) q y;have g:=sT C A B l (iY a) q.d q.t;have:=k.1;omega
 intro f;rcases h.hand q J with v | ⟨K,p,b,_,s⟩
 ·have n:j<c:=by
   rcases fl j c with g | g
   ·exact g
   have:=sT C A B g (iY a) q.d q.t;have:=k.1;omega
  exact h.cut j _ n (kD a) (AR C A B (kD a) k)
 rw[EW C A B a p k s];exact b
variable(F:gS M ι (sts 0).hp.get w)(D:s9 ι (sts 0).hp)(G:(sj E ops).all (Fw (sts ops.size).tm)=true)(I:ops.toList.all (yC (sts ops.size))=true)
include F D G I
theorem J1{L:Nat->Bool}(J:qM ops L){y:Mem}{f:Map}{u:cV}{c:Nat}{v:World}(h:XP E ops sts M ι w L y f u c v){i:Nat}{o:Oper}(p:ops[i]?=some o)(hi:L i=false)(l : ∀e∈fA o,L e=true)
 (m:cls E o=1\/cls E o=2) {t:Tmp} (K:nr E o=some t) {q:Ref} (z:lC (df (sts i).tm t)=some q) (a:(sts i).hp.get q≠none) (N:f q≠none) :
 u q=(sts i).hp.get q /\∀j,j<ops.size->turns sts j q->(L j=true↔j<i):=by
 have d:i<ops.size:=(jb.1 p).1;have key : ∀j,j<ops.size->turns sts j q->(L j=true↔j<i):=by
  intro j s x;have b:=kD s;rcases Hw C A B F D I b x with hm | ⟨k,t',g,n⟩
  ·exact DJ C A B F D h d hi a N s hm
  exact Wi C A G J p hi l m K z b k g n
 exact⟨h.Ox (iY d) key,key⟩
theorem Tx(hpc : ∀f xs y,pc f xs=some y->j5 E.P f xs y)(htc : ∀f xs H y H',tc f xs H=some (y,H')->jd E.P f xs H y H'){ro:Option Nat}{Q:Exit->Act->World->Prop}
 {L L':Nat->Bool} {i:Nat} {o:Oper} (ho:ops[i]?=some o) (hi:L i=false) (hed : ∀e∈fA o,L e=true)
 (O : ∀j,L' j=true↔(L j=true\/j=i)) {a1:Act} {w1:World} (hI:XQ E nt ops sts M ι w ds L a1 w1) {K:Act->World->Prop} (hK : ∀a' w',XQ E nt ops sts M ι w ds L' a' w'->K a' w') :
 if Region.wanted o (yielded ops a1.tmps) then o.wpIn (FW ro) 0 E.P a1 w1 K Q else K (a1.put o.dst undef) w1:=by
 obtain⟨hc,hds,M1,Y,tm1,g1,c,hTS,W,hnt,S⟩:=hI;have N:i<ops.size:=(jb.1 ho).1;have hc':qM ops L':=qM.next hc ho hed O;have hlook : ∀t∈o.looksAt ops,df tm1 t=df (sts i).tm t:=λt ht=>Ia C.toRegB A hc ho hi hed hTS ht;have hag:=A8 hlook;have hwd:=zj hlook;have step:=A i o ho;have hle4:=E7 E o;have fin : ∀(u:Value)(x:AV)(R:List AV)(w':World)(M':Mem)(ι':Map),(sts (i+1)).hp=(sts i).hp->dx nt (sts i).tm o.dst x=some (sts (i+1)).tm->dx nt tm1 o.dst x=some R ->
  TR M' ι' R (a1.put o.dst u)->(a1.put o.dst u).tmps.size=nt->gS M' ι' g1 w'->uS M1 Y g1 w1 M' ι' g1 w'->(∀q,ι' q≠none->Y q≠none)->XQ E nt ops sts M ι w ds L' (a1.put o.dst u) w':=by
  intro u x R w' M' ι' hsame hx X htr hn hS' hF' hι;refine⟨hc',(iN _ _ _).trans hds,M',ι',R,g1,c,vd C.toRegB ho O hi hTS hx X,htr,hn,hS',S.fwd.trans hF',S.le,λj oj hj s hcj=>(O j).2 (.inl (S.cut j oj hj s hcj)),λq hq=>?_,λq=>?_⟩
  ·rcases S.hand q (hι q hq)with h | ⟨j,h1,h2,h3,h4⟩
   ·exact .inl h
   exact .inr ⟨j,h1,(O j).2 (.inl h2),h3,h4⟩
  obtain⟨n,h1,h2,h3⟩:=S.get q;refine⟨n,h1,h2,λj hj hT=>?_⟩;have J:j≠i:=by intro e;subst e;exact hT (by rw[hsame])
  rw[<-h3 j hj hT,O j];simp[J]
 have hkeyfree : ∀k:Nat,Y { (⟨dep+1,0,(sts ops.size).hp.gen (dep+1) 0,0⟩:Ref)with k:=k}=none:=by
  intro k;cases hq:Y { (⟨dep+1,0,(sts ops.size).hp.gen (dep+1) 0,0⟩:Ref)with k:=k} with
  | none=>rfl
  | some l=>
   exfalso;rcases S.hand _ (by rw[hq];simp)with h | ⟨j,h1,_,_,h4⟩
   ·have:=sT C A B S.le (cG _) (dep+1) 0;simp only at h;omega
   have:=sT C A B (show j+1<=ops.size from h1) (cG _) (dep+1) 0;have:=h4.2;simp only at this;omega
 have quiet : ∀ {x:AV} {tm':List AV},(sts (i+1)).hp=(sts i).hp->dx nt (sts i).tm o.dst x=some (sts (i+1)).tm ->
  cQ E pc true g1 tm1 ⟨dep+1,0,(sts ops.size).hp.gen (dep+1) 0,0⟩ o=some (x,[])->o.wpIn (FW ro) 0 E.P a1 w1 K Q:=by
  intro x tm' hsame hx hq;obtain⟨R,X⟩:=lV (tm1:=tm1) hx;refine yS (E:=E) (o:=o) S.sim W rfl hkeyfree hpc (λh=>by cases h) hq ro K Q λu w' ⟨M',ι',h1,h2,h3,h4⟩=>hK _ _ ?_;rw[nV]at h2 h3;obtain⟨h5,h6⟩:=(W.mono h3.mem h3.map).put hnt X h1;refine fin u x R w' M' ι' hsame hx X h5 h6 h2 h3 λq hq hn=>hq (h4 q hn (λk hk=>by simp at hk))
 have hno:wanted ops (sts i).tm o=some false->if Region.wanted o (yielded ops a1.tmps) then o.wpIn (FW ro) 0 E.P a1 w1 K Q else K (a1.put o.dst undef) w1:=by
  intro hw;have hw1:=hw;rw[<-hwd]at hw1;rw[j8 W hw1];simp only[eW,iQe];unfold evalOp at step;rw[hw]at step;simp only[bI]at step;obtain⟨tm',ht,he⟩:=step;have hx:dx nt (sts i).tm o.dst AV.undef=some (sts (i+1)).tm:=by rw[<-he];exact ht
  obtain⟨R,X⟩:=lV (tm1:=tm1) hx;obtain⟨h1,h2⟩:=W.put hnt X (u:=undef) (.v rfl);exact hK _ _ (fin undef AV.undef R w1 M1 Y (by rw[<-he]) hx X h1 h2 S.sim uS.refl λ_ h=>h)
 have maker : ∀ {d:Nat} {x:AV} {bs:List bj},3<=cls E o->(sts (i+1)).hp=keyed ⟨dep,d,(sts i).hp.gen dep d,0⟩ 0 bs (sts i).hp->dx nt (sts i).tm o.dst x=some (sts (i+1)).tm ->
  cQ E pc true g1 tm1 ⟨dep,d,(sts i).hp.gen dep d,0⟩ o=some (x,bs)->(∀k,Y { (⟨dep,d,(sts i).hp.gen dep d,0⟩:Ref)with k:=k}=none)->o.wpIn (FW ro) 0 E.P a1 w1 K Q:=by
  intro d x bs Z hhp hx hq' hfree;obtain⟨R,X⟩:=lV (tm1:=tm1) hx;refine yS (E:=E) (o:=o) S.sim W rfl hfree hpc (λh=>by cases h) hq' ro K Q λu w' ⟨M',ι',h1,h2,h3,h4⟩=>hK _ _ ?_;obtain⟨h5,h6⟩:=(W.mono h3.mem h3.map).put hnt X h1;refine⟨hc',(iN _ _ _).trans hds,M',ι',R,tB g1 ⟨dep,d,(sts i).hp.gen dep d,0⟩ bs,c,vd C.toRegB ho O hi hTS hx X,h5,h6,h2,S.fwd.trans h3,S.le,λj oj hj s hcj=>(O j).2 (.inl (S.cut j oj hj s hcj)),λq hq=>?_,λq=>?_⟩
  ·by_cases hq1:Y q=none
   ·by_cases hk : ∃k,k<bs.length/\q = { (⟨dep,d,(sts i).hp.gen dep d,0⟩:Ref)with k:=k}
    ·obtain⟨k,hk,e⟩:=hk;refine .inr ⟨i,N,(O i).2 (.inr rfl),?_,?_⟩
     ·rcases fl i c with U | U
      ·have:=S.cut i o U ho (by omega);rw[hi]at this;cases this
      exact U
     subst e;refine⟨cG _,?_⟩;simp only;rw[hhp,aa.mR,if_pos ⟨rfl,rfl,by intro e;rw[e]at hk;simp at hk⟩];exact rJ _
    exact absurd (h4 q hq1 λk hk' e=>hk ⟨k,hk',e⟩) hq
   rcases S.hand q hq1 with h | ⟨j,g1',g2,g3,g4⟩
   ·exact .inl h
   exact .inr ⟨j,g1',(O j).2 (.inl g2),g3,g4⟩
  by_cases hk:q.d=dep/\q.t=d/\q.g=(sts i).hp.gen dep d/\q.k<bs.length
  ·have hmk:makes sts i q:=(by obtain⟨k1,k2,k3,k4⟩:=hk;refine⟨by rw[k1,k2,k3];exact cG _,?_⟩;rw[hhp,aa.mR,if_pos ⟨k1,k2,by intro e;rw[e]at k4;simp at k4⟩,k3];exact rJ _);refine⟨i+1,N,?_,λj hj hT=>?_⟩;·rw[hhp,aa.nI];unfold tB;rw[if_pos hk,if_pos hk]
   rw[O j];by_cases J:j=i;·subst J;simp
   have s:=kD hj;have hturn:turns sts i q:=(by obtain⟨k1,k2,k3,k4⟩:=hk;intro e;have h5:(sts i).hp.get q≠none:=(by rw[<-e,hhp,aa.nI];unfold tB;rw[if_pos ⟨k1,k2,k3,k4⟩,dI k4];simp);have:=Pe C A B F D (iY N) q h5;rw[k1,k2,k3]at this;exact absurd this (xq _));have hnot : ¬j<i:=by
    intro hji';obtain⟨k1,k2,k3,k4⟩:=hk;have hlive : ∀m,m<=i->(sts m).hp.get q≠none->False:=by
     intro m hm V;have h6:=Pe C A B F D (wQ hm (iY N)) q V;have h7:=sT C A B hm (iY N) q.d q.t;rw[k1,k2]at h6 h7;rw[k3]at h6;omega
    by_cases h8:(sts j).hp.get q=none;·exact hlive (j+1) hji' (λh9=>hT (by rw[h8,h9]))
    exact hlive j (iY hji') h8
   have:(L j=true↔j<i):=by
    obtain⟨n',k1,k2,k3⟩:=S.get q;have h9:=k3 i N hturn;rw[hi]at h9;have h10:=k3 j hj hT;rw[h10];constructor
    ·intro h11;have : ¬i<n':=λh=>by simpa using h9.2 h
     omega
    intro h11;exact absurd h11 hnot
   rw[this];constructor
   ·rintro(h | h);·omega
    exact absurd h J
   intro h;left;omega
  obtain⟨n',k1,k2,k3⟩:=S.get q;refine⟨n',k1,?_,λj hj hT=>?_⟩;·unfold tB;rw[if_neg hk];exact k2
  have J:j≠i:=(by intro e;subst e;refine hT ?_;rw[hhp,aa.nI];unfold tB;rw[if_neg hk]);rw[<-k3 j hj hT,O j];simp[J]
 cases hwt:wanted ops (sts i).tm o with| none=>unfold evalOp at step;rw[hwt]at step;cases step| some b=>
 cases b with| false=>exact hno hwt| true=>
 have hw1:=hwt;rw[<-hwd]at hw1;have hcs:cls E o=0\/cls E o=1\/cls E o=2\/cls E o=3\/cls E o=4:=by omega
 rcases hcs with Z | Z | Z | Z | Z
 ·rw[j8 W hw1];simp only[if_true];have hh:=IU Z;rcases oN step with ⟨hw,_,_,_⟩ | ⟨hw,x,bs,hq,tm',ht,he⟩ | hwk
  ·rw[hwt]at hw;cases hw
  ·obtain⟨hbs,hall⟩:=yN hh hq;subst hbs;exact quiet (tm':=tm') (Bu (.inl Z) step) (by rw[he];exact ht) (by rw[ur hag];exact hall _ _)
  rw[iH hwk]at hh;cases hh
 ·rw[j8 W hw1];simp only[if_true];obtain⟨t,T,hst,hwk⟩:=LW Z;rcases oN step with ⟨hw,_,_,_⟩ | ⟨hw,x,bs,hq,tm',ht,he⟩ | hwk'
  ·rw[hwt]at hw;cases hw
  ·obtain⟨hbs,hall⟩:=Nu T hq;subst hbs;refine quiet (tm':=tm') (Bu (.inr Z) step) (by rw[he];exact ht) ?_;rw[ur hag];refine hall g1 _ λq hrq V=>?_;refine(J1 C A B F D G I hc S ho hi hed (.inl Z) hst hrq V ?_).1;have ht1:df tm1 t=df (sts i).tm t:=by
    refine hlook t ?_;unfold Oper.looksAt;refine KS _ (List.mem_filterMap.2 ⟨.tmp t,?_,rfl⟩);unfold Cn at T;split at T;·rename_i hop;cases T;rw[hop];simp[Op.operands]
    ·rename_i hop;cases T;rw[hop];simp[Op.operands]
    ·rename_i hop;cases T;rw[hop];simp[Op.operands]
    ·rename_i hop;split at T;·cases T
     cases T;rw[hop];simp[Op.operands]
    ·rename_i hop;cases T;rw[hop];simp[Op.operands]
    ·rename_i c hop;split at T
     ·split at T
      ·rename_i hargs;cases T;rw[hop];have:(Operand.tmp t)∈c.args:=by rw[<-Array.mem_toList_iff,hargs];simp
       simp only[Op.operands,Call.operands];simp[this]
      cases T
     cases T
    cases T
   have hv:=W.at_ t;rw[ht1]at hv;revert hrq hv;generalize df (sts i).tm t=v;generalize a1.tmps.getD t undef=u;intro hrq hv;cases hv with
   | ptr hr hzl=>cases hrq;rw[hr];simp
   | bk hr=>cases hrq;rw[hr];simp
   | dsl hr=>cases hrq;rw[hr];simp
   | mp hr=>cases hrq;rw[hr];simp
   | ch hr=>cases hrq;rw[hr];simp
   | _=>cases hrq
  rw[hwk]at hwk';cases hwk'
 ·rw[j8 W hw1];simp only[if_true];obtain⟨ty,t,xo,r,i',j',b,x,n,es',hop,hs,hta,hb,harr,hfr,hxo,hn,hxn,hx1,hes,he,hx⟩:=Rc C A B F D I ho Z hwt;have hmem : ∀y,y = .tmp t\/y=xo->aP tm1 y=aP (sts i).tm y:=(by intro y hy;refine hag y ?_;rw[hop];rcases hy with rfl | rfl<;>simp[Op.operands]);have hpv:=aX W (x := .tmp t) (y := .ptr r i' j') (by rw[hmem _ (.inl rfl)];simp only[aP,hta]);have hxv:=aX W (x:=xo) (y:=x) (by rw[hmem _ (.inr rfl)];exact hxo);have hhand:Y r≠none:=(by revert hpv;generalize a1.eval (.tmp t)=u;intro hpv;cases hpv with | ptr hr hzl=>rw[hr];simp);obtain⟨hg,hord⟩:=J1 C A B F D G I hc S ho hi hed (.inr Z) hs (q:=r) (by rw[hta];rfl) (by rw[hb];simp) hhand;rw[hb]at hg;obtain⟨w',hr,hS',hF'⟩:=ML (P:=E.P) S.sim hn hpv hxv hg hxn hx1 hfr harr hes;obtain⟨R,X⟩:=lV (tm1:=tm1) hx;have hok:fb E.P o a1 w1 λu w2=>u=undef/\w2=w':=fb.Gl (by simp[execOp,hop,hr]) ⟨rfl,rfl⟩;refine hok ro K Q λu w2 ⟨e1,e2⟩=>hK _ _ ?_;subst e1;subst e2;obtain⟨h5,h6⟩:=(W.mono hF'.mem hF'.map).put hnt X (u:=undef) (.v rfl);refine⟨hc',(iN _ _ _).trans hds,M1,Y,R,mf g1 r { b with es:=es'},c,vd C.toRegB ho O hi hTS hx X,h5,h6,hS',S.fwd.trans hF',S.le,λj oj hj s hcj=>(O j).2 (.inl (S.cut j oj hj s hcj)),λq hq=>?_,λq=>?_⟩
  ·rcases S.hand q hq with h | ⟨j,h1,h2,h3,h4⟩
   ·exact .inl h
   exact .inr ⟨j,h1,(O j).2 (.inl h2),h3,h4⟩
  by_cases hqr:q=r
  ·subst hqr;refine⟨i+1,N,?_,λj hj hT=>?_⟩;·rw[he,aa.ab,if_pos rfl];unfold mf;rw[if_pos rfl]
   rw[O j];by_cases J:j=i;·subst J;simp
   rw[hord j hj hT];constructor
   ·rintro(h | h);·omega
    exact absurd h J
   intro h;left;omega
  obtain⟨n',h1,h2,h3⟩:=S.get q;refine⟨n',h1,?_,λj hj hT=>?_⟩;·unfold mf;rw[if_neg hqr];exact h2
  have J:j≠i:=(by intro e;subst e;refine hT ?_;rw[he,aa.ab,if_neg hqr]);rw[<-h3 j hj hT,O j];simp[J]
 ·rw[j8 W hw1];simp only[if_true];obtain⟨hh,hwk⟩:=BI Z;rcases oN step with ⟨hw,_,_,_⟩ | ⟨hw,x,bs,hq,tm',ht,he⟩ | hwk'
  ·rw[hwt]at hw;cases hw
  ·obtain⟨d,hd⟩:=gT.1 (C.made i o ho Z);rw[hd,cB]at hq he;have hx:dx nt (sts i).tm o.dst x=some (sts (i+1)).tm:=by rw[he];exact ht
   obtain⟨R,X⟩:=lV (tm1:=tm1) hx;have hhp:(sts (i+1)).hp=keyed ⟨dep,d,(sts i).hp.gen dep d,0⟩ 0 bs (sts i).hp:=by rw[he]
   have hloc:blind E o=false->Ef Y (sts i).hp.get g1:=by
    intro hbl q b hg V;rw[<-hg];refine S.Ox (iY N) λj hj hT=>?_;have s:=kD hj;rcases Hw C A B F D I s hT with hm | ⟨hcj,_⟩
    ·exact DJ C A B F D S N hi (by rw[hg];simp) V hj hm
    exact uf C hc ho hi hed (by omega) s (.inl hbl) ⟨TK hbl,pb (by omega)⟩ (by omega)
   rw[<-ur hag]at hq;have hq':cQ E pc true g1 tm1 ⟨dep,d,(sts i).hp.gen dep d,0⟩ o=some (x,bs):=by
    cases hbl:blind E o with| true=>exact Xv hbl hq| false=>exact E3 S.sim (hloc hbl) W hq
   have hfree : ∀k,Y { (⟨dep,d,(sts i).hp.gen dep d,0⟩:Ref)with k:=k}=none:=by
    intro k;cases hqk:Y { (⟨dep,d,(sts i).hp.gen dep d,0⟩:Ref)with k:=k} with
    | none=>rfl
    | some l=>
     exfalso;rcases S.hand _ (by rw[hqk];simp)with h | ⟨j,h1,h2,h3,h4⟩
     ·simp only at h;rcases fl i c with U | U
      ·have:=S.cut i o U ho (by omega);rw[hi]at this;cases this
      have:=sT C A B U (iY N) dep d;omega
     have s:=kD h1;have h5:=h4.1;have h6:=h4.2;simp only at h5 h6;rcases CG j i with J | J | J
     ·have:=sT C A B (show j+1<=i from J) (iY N) dep d;omega
     ·subst J;rw[hi]at h2;cases h2
     have hcj:=AR C A B s h4;have hc4:cls E ops[j]=3\/cls E ops[j]=4:=by have:=E7 E ops[j];omega
     rcases hc4 with hc3 | hc4
     ·obtain⟨dj,hdj⟩:=gT.1 (C.made j _ s hc3);have hstepj:=A j _ s;have V:d≠dj:=(by intro e;have:=C.distinct i j o ops[j] d ho s hd (by rw[hdj,e]);omega);rcases oN hstepj with ⟨_,_,_,he2⟩ | ⟨_,_,bs2,_,_,_,he2⟩ | hwk2
      ·rw[he2]at h6;dsimp only at h6;omega
      ·rw[he2]at h6;simp only[hdj,cB]at h6;rw[aa.mR,if_neg (by intro hcc;exact V hcc.2.1)]at h6;omega
      rw[(BI hc3).2]at hwk2;cases hwk2
     cases hha:pd E o ops[j] with
     | true=>
      have V:=P6 (E:=E) (xX.1 hha).1 hq;have hmk:makes sts i { (⟨dep,d,(sts i).hp.gen dep d,0⟩:Ref)with k:=k}:=⟨cG _,by
       simp only;rw[hhp,aa.mR,if_pos ⟨rfl,rfl,V⟩];exact rJ _⟩
      have:=EW C A B h1 N h4 hmk;omega
     | false=>have:=(uf C hc ho hi hed (by omega) s (.inr (by omega)) ⟨hha,pb (by omega)⟩ (.inr (.inl hc4))).1 h2;omega
   exact maker (by omega) hhp hx hq' hfree
  rw[hwk]at hwk';cases hwk'
 have hb4:blind E o=false:=by unfold blind;rw[Z];rfl
 cases hat:((I5 o.op).isSome&&o.dst.isSome) with
 | true=>
  rw[j8 W hw1];simp only[if_true];obtain⟨hat1,hat2⟩:=xX.1 hat;obtain⟨t,ht⟩:=gT.1 hat1;obtain⟨d,hd⟩:=gT.1 hat2;have hloc:Ef Y (sts i).hp.get g1:=by
   intro q b hg V;rw[<-hg];refine S.Ox (iY N) λj hj hT=>?_;have s:=kD hj;rcases Hw C A B F D I s hT with hm | ⟨hcj,_⟩
   ·exact DJ C A B F D S N hi (by rw[hg];simp) V hj hm
   exact uf C hc ho hi hed (by omega) s (.inl hb4) ⟨pb (by omega),pb (by omega)⟩ (by omega)
  rcases Su ht hwt step with ⟨x,bs,tm',hq,hx,he⟩ | ⟨c',y,z,x,hop,hcal,hargs,hA,hy,hx⟩
  ·rw[hd,cB]at hq he;have hx2:dx nt (sts i).tm o.dst x=some (sts (i+1)).tm:=by rw[he];exact hx
   have hhp:(sts (i+1)).hp=keyed ⟨dep,d,(sts i).hp.gen dep d,0⟩ 0 bs (sts i).hp:=(by rw[he]);rw[<-ur hag]at hq;refine maker (by omega) hhp hx2 (E3 S.sim hloc W hq) λk=>?_;cases hqk:Y { (⟨dep,d,(sts i).hp.gen dep d,0⟩:Ref)with k:=k} with
   | none=>rfl
   | some l=>
    exfalso;rcases S.hand _ (by rw[hqk];simp)with h | ⟨j,h1,h2,h3,h4⟩
    ·simp only at h;rcases fl i c with U | U
     ·have:=S.cut i o U ho (by omega);rw[hi]at this;cases this
     have:=sT C A B U (iY N) dep d;omega
    have s:=kD h1;have h5:=h4.1;have h6:=h4.2;simp only at h5 h6;rcases CG j i with J | J | J
    ·have:=sT C A B (show j+1<=i from J) (iY N) dep d;omega
    ·subst J;rw[hi]at h2;cases h2
    have hcj:=AR C A B s h4;have hc4:cls E ops[j]=3\/cls E ops[j]=4:=by have:=E7 E ops[j];omega
    rcases hc4 with hc3 | hc4
    ·obtain⟨dj,hdj⟩:=gT.1 (C.made j _ s hc3);have hstepj:=A j _ s;have V:d≠dj:=(by intro e;have:=C.distinct i j o ops[j] d ho s hd (by rw[hdj,e]);omega);rcases oN hstepj with ⟨_,_,_,he2⟩ | ⟨_,_,bs2,_,_,_,he2⟩ | hwk2
     ·rw[he2]at h6;dsimp only at h6;omega
     ·rw[he2]at h6;simp only[hdj,cB]at h6;rw[aa.mR,if_neg (by intro hcc;exact V hcc.2.1)]at h6;omega
     rw[(BI hc3).2]at hwk2;cases hwk2
    have:=(uf C hc ho hi hed (by omega) s (.inr (by omega)) ⟨pb (by omega),pb (by omega)⟩ (.inr (.inl hc4))).1 h2;omega
  have hmapM:c'.args.toList.mapM (aP tm1)=some [y,z]:=by
   rw[<-hargs];refine mapM_congr λa ha=>hag a ?_;rw[hop];have:a∈c'.args:=by simpa using ha
   simp[Op.operands,Call.operands,this]
  have hvs:=mS W hmapM;obtain⟨u,v,hu1⟩:=zP hvs.1.symm;rw[hu1]at hvs;have vy:=hvs.2 0 y u rfl rfl;have vz:=hvs.2 1 z v rfl rfl;have hnew0 : ∀r',lC y=some r'->(sts i).hp.get r'≠none->makes sts i ⟨r'.d,r'.t,(sts i).hp.gen r'.d r'.t,0⟩:=(by intro r' hr' V;obtain⟨r2,b2,z2,es2,f2,e1,e2,e3,e4⟩:=B0 hA;rw[hr']at e1;cases e1;refine⟨cG _,?_⟩;simp only;rw[e4,Ma (by rw[e2];rfl),if_pos ⟨rfl,rfl⟩];exact rJ _);have hrefs : ∀r',lC y=some r'->Y r'≠none:=by
   intro r' hr';revert vy hr';generalize y=v;intro vy hr';cases vy with
   | ptr hr hzl=>cases hr';rw[hr];simp
   | bk hr=>cases hr';rw[hr];simp
   | dsl hr=>cases hr';rw[hr];simp
   | mp hr=>cases hr';rw[hr];simp
   | ch hr=>cases hr';rw[hr];simp
   | _=>cases hr'
  obtain⟨r',b,k',e1,e2,hqr,e3,u',w',ι',hr',hv',hS',hF',hι'⟩:=Mu (P:=E.P) (ty:=o.type) (H:=(sts i).hp) S.sim vy vz (λr' hr' V=>by
   cases hb:(sts i).hp.get r' with| none=>exact absurd hb V| some b=>exact hloc r' b hb (hrefs r' hr')) (λe p hp=>Kf hloc vz hp) (λr' hr' V=>by
   cases hqk:Y ⟨r'.d,r'.t,(sts i).hp.gen r'.d r'.t,0⟩ with| none=>rfl| some l=>
    exfalso;rcases S.hand _ (by rw[hqk];simp)with h | ⟨j,h1,h2,h3,h4⟩
    ·simp only at h;rcases fl i c with U | U
     ·have:=S.cut i o U ho (by omega);rw[hi]at this;cases this
     have:=sT C A B U (iY N) r'.d r'.t;omega
    have:=EW C A B h1 N h4 (hnew0 r' hr' V);subst this;rw[hi]at h2;cases h2) hA
  have hmk:=hnew0 r' e1 (by rw[e2];simp);obtain⟨R,X⟩:=lV (tm1:=tm1) hx;have hok:fb E.P o a1 w1 λu2 w2=>u2=u'/\w2=w':=(by refine fb.ko ?_ ⟨rfl,rfl⟩;have hsame:c'.args.map a1.eval = #[u,v]:=(by apply KL.1;rw[Array.toList_map,hu1]);simp only[execOp,hop,resolve,hcal,invoke,iQf,iQj,iQd,hsame];show(do pure (Next.value (<-Builtin.append_ c'.argTypes o.type #[u,v])):Sem Next).run E.P w1=_;exact HR hr');refine hok ro K Q λu2 w2 ⟨f1,f2⟩=>hK _ _ ?_;subst f1;subst f2;obtain⟨h5,h6⟩:=(W.mono hF'.mem hF'.map).put hnt X hv';refine⟨hc',(iN _ _ _).trans hds,M1,ι',R,_,c,vd C.toRegB ho O hi hTS hx X,h5,h6,hS',S.fwd.trans hF',S.le,λj oj hj s hcj=>(O j).2 (.inl (S.cut j oj hj s hcj)),λq hq=>?_,λq=>?_⟩
  ·by_cases hqq:q=⟨r'.d,r'.t,(sts i).hp.gen r'.d r'.t,0⟩
   ·refine .inr ⟨i,N,(O i).2 (.inr rfl),?_,by rw[hqq];exact hmk⟩;rcases fl i c with U | U
    ·have:=S.cut i o U ho (by omega);rw[hi]at this;cases this
    exact U
   by_cases hq1:Y q=none;·exact absurd (hι' q hq1 hqq) hq
   rcases S.hand q hq1 with h | ⟨j,g1',g2,g3,g4⟩
   ·exact .inl h
   exact .inr ⟨j,g1',(O j).2 (.inl g2),g3,g4⟩
  have hat3:(sts (i+1)).hp.get q=mf (sX (sts i).hp.get r') ⟨r'.d,r'.t,(sts i).hp.gen r'.d r'.t,0⟩ k' q:=(by rw[e3,get_append _ _ _ _ hqr]);by_cases hqq:q=⟨r'.d,r'.t,(sts i).hp.gen r'.d r'.t,0⟩
  ·refine⟨i+1,N,by rw[hat3];unfold mf;rw[if_pos hqq,if_pos hqq],λj hj hT=>?_⟩;rw[O j];by_cases J:j=i;·subst J;simp
   have hturn:turns sts i q:=by
    intro e;have h5:(sts i).hp.get q≠none:=by
     rw[<-e,hat3];unfold mf;rw[if_pos hqq];simp
    have:=Pe C A B F D (iY N) q h5;rw[hqq]at this;exact absurd this (xq _)
   have hnot : ¬j<i:=by
    intro hji';have hlive : ∀m,m<=i->(sts m).hp.get q≠none->False:=by
     intro m hm V;have h6:=Pe C A B F D (wQ hm (iY N)) q V;have h7:=sT C A B hm (iY N) q.d q.t;rw[hqq]at h6 h7;simp only at h6 h7;omega
    by_cases h8:(sts j).hp.get q=none;·exact hlive (j+1) hji' (λh9=>hT (by rw[h8,h9]))
    exact hlive j (iY hji') h8
   have:(L j=true↔j<i):=by
    obtain⟨n',k1,k2,k3⟩:=S.get q;have h9:=k3 i N hturn;rw[hi]at h9;have h10:=k3 j hj hT;rw[h10];constructor
    ·intro h11;have : ¬i<n':=λh=>by simpa using h9.2 h
     omega
    intro h11;exact absurd h11 hnot
   rw[this];constructor
   ·rintro(h | h);·omega
    exact absurd h J
   intro h;left;omega
  by_cases hqr2:q=r'
  ·refine⟨i+1,N,by rw[hat3];unfold mf sX;rw[if_neg hqq,if_neg hqq,if_pos hqr2,if_pos hqr2],λj hj hT=>?_⟩;rw[O j];by_cases J:j=i;·subst J;simp
   have s:=kD hj;have:(L j=true↔j<i):=by
    rcases Hw C A B F D I s hT with hm | ⟨hcj,_⟩
    ·exact DJ C A B F D S N hi (by rw[hqr2,e2];simp) (by rw[hqr2];exact hrefs r' e1) hj hm
    exact uf C hc ho hi hed (by omega) s (.inl hb4) ⟨pb (by omega),pb (by omega)⟩ (by omega)
   rw[this];constructor
   ·rintro(h | h);·omega
    exact absurd h J
   intro h;left;omega
  obtain⟨n',k1,k2,k3⟩:=S.get q;refine⟨n',k1,?_,λj hj hT=>?_⟩;·unfold mf sX;rw[if_neg hqq,if_neg hqr2];exact k2
  have J:j≠i:=(by intro e;subst e;refine hT ?_;rw[hat3];unfold mf sX;rw[if_neg hqq,if_neg hqr2]);rw[<-k3 j hj hT,O j];simp[J]
 | false=>
 have hha : ∀oj,pd E o oj=false/\pd E oj o=false:=λoj=>⟨pb (by omega),TL hat⟩;have hall : ∀q j,j<ops.size->turns sts j q->(L j=true↔j<i):=by
  intro q j hj hT;have s:=kD hj;refine uf C hc ho hi hed (by omega) s (.inl hb4) (hha _) ?_;rcases Hw C A B F D I s hT with hm | ⟨hcj,_⟩
  ·exact .inr (.inr ⟨Z,AR C A B s hm⟩)
  omega
 have hg:g1=(sts i).hp.get:=funext λq=>S.Ox (iY N) (hall q);have hD:s9 Y (sts i).hp:=by
  intro q l hq;rcases S.hand q (by rw[hq];simp)with h | ⟨j,h1,h2,h3,h4⟩
  ·rcases fl i c with U | U
   ·have:=S.cut i o U ho (by omega);rw[hi]at this;cases this
   exact Ay h (sT C A B U (iY N) _ _)
  have s:=kD h1;have J:=(uf C hc ho hi hed (by omega) s (.inl hb4) (hha _) (.inr (.inr ⟨Z,AR C A B s h4⟩))).1 h2;exact Ay h4.2 (sT C A B (show j+1<=i from J) (iY N) _ _)
 have hO:z0 M1 Y ⟨tm1,(sts i).hp⟩ nt a1 w1:=⟨by rw[<-hg];exact S.sim,hD,W,hnt⟩;obtain⟨x,R,hx,X,hev⟩:=Kt hlook step;refine E4 (E:=E) (Q:=Q) hO hpc htc (λh=>by cases h) (.inl rfl) hev λa' w' ⟨⟨M',ι',hO',hF'⟩,hd'⟩=>hK a' w' ⟨hc',hd'.trans hds,M',ι',R,(sts (i+1)).hp.get,i+1,vd C.toRegB ho O hi hTS hx X,hO'.tr,hO'.nt,hO'.sim,?_,N,?_,?_,?_⟩;·have:=S.fwd;rw[hg]at this;exact this.trans hF'
 ·intro j oj hj s hcj;by_cases J:j=i;·exact(O j).2 (.inr J)
  exact(O j).2 (.inl ((uf C hc ho hi hed (by omega) s (.inl hb4) (hha _) (.inr (.inr ⟨Z,hcj⟩))).2 (by omega)))
 ·intro q hq;cases hqq:ι' q with
  | none=>exact absurd hqq hq
  | some l=>exact .inl (hO'.dom q l hqq)
 intro q;refine⟨i+1,N,rfl,λj hj hT=>?_⟩;rw[O j];by_cases J:j=i;·subst J;simp
 rw[hall q j hj hT];constructor
 ·rintro(h | h);·omega
  exact absurd h J
 intro h;left;omega
omit F D G I in
theorem Nv{L:Nat->Bool}(d : ∀i,i<ops.size->L i=true){a p:Act}{J:World}(v:a.defers=ds)(R:XQ E nt ops sts M ι w ds L p J):kQ M ι (sts 0) a w nt (sts ops.size) p J:=by
 obtain⟨U,u,N,k,tm1,S,c,x,y,m,g⟩:=R;have z : ∀t,df tm1 t=df (sts ops.size).tm t:=by
  intro t;obtain⟨s,T⟩:=x t;obtain⟨O,n⟩:=Lh C.toRegB A ops.size (cG _) t;by_cases e : ∃j,j<ops.size/\jI ops j=some t;·obtain⟨j,b,hd⟩:=e;rw[s j b (d j b) hd,O j b (by simpa using b) hd]
  rw[T λj b _ hd=>e ⟨j,b,hd⟩,n λj b _ hd=>e ⟨j,b,hd⟩]
 have f:TR N k (sts ops.size).tm p:=⟨λt=>by rw[<-z];exact y.at_ t⟩;have K:S=(sts ops.size).hp.get:=funext λq=>g.Ox (cG _) λj b _=>⟨λ_=>b,λ_=>d j b⟩;refine⟨⟨N,k,⟨by rw[<-K];exact g.sim,?_,f,m⟩,by rw[<-K];exact g.fwd⟩,u.trans v.symm⟩;intro q l Q;rcases g.hand q (by rw[Q];simp)with h | ⟨j,s,_,_,n⟩
 ·exact Ay h (sT C A B g.le (cG _) _ _)
 exact Ay n.2 (sT C A B (show j+1<=ops.size from s) (cG _) _ _)
theorem ZM(W : ∀f x y,pc f x=some y->j5 E.P f x y)(htc : ∀f x H y H',tc f x H=some (y,H')->jd E.P f x H y H'){ro:Option Nat}{a0:Act}(v:a0.defers=ds){Q:Exit->Act->World->Prop}
 (hQ : ∀U w',kQ M ι (sts 0) a0 w nt (sts ops.size) U w'->Q .normal U w') : ∀(b:Nat)(a:Array Bool)(O:Act)(N:World),a.size=ops.size ->
 (List.range ops.size).countP (λi => !a.getD i false)<=b->XQ E nt ops sts M ι w ds (λi=>a.getD i false) O N->wpAnyIn (FW ro) 0 E.P .any ops Q b a O N:=by
 have C3 : ∀ {a:Array Bool},a.size=ops.size->Region.ready .any ops a=[] ->∀i,i<ops.size->a.getD i false=true:=by
  intro a g h i;induction i using Nat.strongRecOn with | ind i ih=>
  intro hi;cases J:a.getD i false with
  | true=>rfl
  | false=>
   exfalso;have k:=kD hi;have hl':a.getD i true=false:=by
    have:i<a.size:=(by omega);simpa [Array.getD,this] using J
   have:i∈Region.ready .any ops a:=(by rw[iQw];refine⟨hl',_,k,λe S hb=>?_⟩;have u:e.on∈fA ops[i]:=(by unfold fA;exact nO.2 ⟨e,Ep.2 ⟨by simpa using S,hb⟩,rfl⟩);have c:=C.edges i _ k _ u;exact ih e.on c (by omega));rw[h]at this;cases this
 intro b;induction b with
 | zero=>
  intro a O N g hf T;have l : ∀i,i<ops.size->a.getD i false=true:=by
   intro i hi;cases J:a.getD i false with
   | true=>rfl
   | false=>exfalso;have:0<(List.range ops.size).countP (λi => !a.getD i false):=List.countP_pos_iff.2 ⟨i,xV.2 hi,by rw[J];rfl⟩;omega
  refine⟨?_,hQ _ _ (Nv C A B l v T)⟩;refine UA.2 λi hi=>?_;rw[iQw]at hi;obtain⟨z,o,k,_⟩:=hi;have c:i<ops.size:=(jb.1 k).1;have R:=l i c;have:i<a.size:=by omega
  simp[Array.getD,this]at z R;rw[R]at z;cases z
 | succ b ih=>
  intro a O N g hf T;refine⟨λhr=>hQ _ _ (Nv C A B (C3 g hr) v T),λi hi=>?_⟩;rw[iQw]at hi;obtain⟨z,o,k,Y⟩:=hi;have c:i<ops.size:=(jb.1 k).1;have t:i<a.size:=by omega
  have s:a.getD i false=false:=(by simpa [Array.getD,t] using z);have q : ∀e∈fA o,(λi=>a.getD i false) e=true:=(by intro e S;unfold fA at S;obtain⟨d,hd,rfl⟩:=nO.1 S;obtain⟨R,h2⟩:=Ep.1 hd;exact Y d (by simpa using R) h2);have m : ∀j,(λj=>(a.setIfInBounds i true).getD j false) j=true↔((λj=>a.getD j false) j=true\/j=i):=by
   intro j;simp only;by_cases n:j=i;·subst n;simp[t]
   rw[getD_set_ne false (ta n)];simp[n]
  have:=Tx (E:=E) (tc:=tc) (ro:=ro) (K:=wpAnyIn (FW ro) 0 E.P .any ops Q b (a.setIfInBounds i true)) (Q:=Q) C A B F D G I W htc (L:=λi=>a.getD i false) k s q m T λU w' X=>by
   refine ih _ U w' (by simp[g]) ?_ X;have:=FL (p:=λj => !a.getD j false) (p':=λj => !(a.setIfInBounds i true).getD j false) (i:=i) (λj Z=>by
    simp only[iB]at Z ⊢;cases J:a.getD j false with
    | false=>rfl
    | true=>have:=(m j).2 (.inl J);simp only at this;rw[this]at Z;cases Z) (by simp only[s,zg]) (by have:=(m i).2 (.inr rfl);simp only at this ⊢;rw[this];rfl) (List.range ops.size) (xV.2 c)
   omega
  unfold wpOpIn;rw[k];simp only;split;·rename_i V;rw[if_pos V]at this;exact this
  rename_i V;rw[if_neg V]at this;exact⟨λ_ _=>trivial,this⟩
end
def N7{E:Env}(K:E.P.follows .mixedOrders=true){ops:Array Oper}(b:WB E ops=true){pc:FuncId->List AV->Option AV}(n : ∀f g y,pc f g=some y->j5 E.P f g y)
 {tc:uY->List AV->aa->cR} (s : ∀f g H y H',tc f g H=some (y,H')->jd E.P f g H y H') {nt dep id:Nat} {st st':St} {M:Mem} {ι:Map} {a:Act} {w:World} {ro:Option Nat} {Q:Exit->Act->World->Prop}
 (h:oa E pc tc nt dep true ops ops.toList st=some st') (G:tM E ops st'=true) (d:z0 M ι st nt a w) (O : ∀v w',kQ M ι st a w nt st' v w'->Q .normal v w'):(Code.region id ops true).wpIn (FW ro) 0 E.P Q a w:=by
 obtain⟨sts,J,x,N⟩:=HT ops.toList st st' h;rw[BX]at x;have C:=ZG b;have A : ∀i o,ops[i]?=some o->evalOp E pc tc nt dep true ops o (sts i)=some (sts (i+1)):=λi o L=>N i o (by simpa using L);subst J;subst x;have p:(sj E ops).isEmpty=false:=by
  unfold WB at b;rw[bo]at b;simpa using b.1
 unfold tM at G;rw[p,ze,bo,bo]at G;refine wpIn_region_any K ?_;have u:uS M ι (sts 0).hp.get w M ι (sts 0).hp.get { w with drawn:=w.drawn+1} :=
  ⟨rfl,rfl,rfl,cG _,λ_ _ _=>rfl,λ_ _ _ h=>h,λ_ _ h=>h,λr k l h z => .inr ⟨r,k,l,h,z,rfl⟩,λ_ _ _ h => .inl h⟩
 have c : ∀i,(Array.replicate ops.size false).getD i false=false:=by
  intro i;simp only[Dd,OU];split<;>rfl
 refine ZM (tc:=tc) (M:=M) (ι:=ι) (w:=w) (a0:=a) C A G.2.2 d.sim d.dom G.1 G.2.1 n s rfl O ops.size _ a _ (by simp) ?_ ?_;·exact wQ iQJ (by simp)
 refine⟨λi o hi=>?_,rfl,M,ι,(sts 0).tm,(sts 0).hp.get,0,?_,d.tr,d.nt,d.sim.drew rfl,u,uD _,λj o e=>absurd e (Nat.not_lt_zero _),λq R=>?_,λq=>⟨0,uD _,rfl,λj _ _=>⟨λe=>?_,λe=>absurd e (Nat.not_lt_zero _)⟩⟩⟩;·exact absurd ((c i).symm.trans hi) (by simp)
 ·exact λt=>⟨λi _ hi=>absurd ((c i).symm.trans hi) (by simp),λ_=>rfl⟩
 ·cases m:ι q with| none=>exact absurd m R| some l=>exact .inl (d.dom q l m)
 exact absurd ((c j).symm.trans e) (by simp)
end
end Go.Ab
namespace Go.Ab
open Go.ChangeShapes Go.WideShapes Go.RowKit
structure Kept (W W':World):Prop where
 os:W'.os=W.os
 output:W'.output=W.output
 size:W.heap.size<=W'.heap.size
 old : ∀b,b<W.heap.size->W'.heap[b]?=W.heap[b]?
def Kept.keptBut{W a:World}(h:Kept W a)(may:MemPlace->Prop):W.keptBut a may:=by
 refine⟨h.os,h.output,λi hi=>?_⟩;rw[h.old i hi];have:=kD hi;rw[this];cases W.heap[i]<;>simp
def Kept.frozen{W b:World}(h:Kept W b){a:Addr}(c:a.block<W.heap.size):b.frozen? a=W.frozen? a:=by
 unfold World.frozen?;rw[h.old _ c]
def Kept.same{W a:World}(h:Kept W a){p:MemPlace}(hp:p.block<W.heap.size):W.sameAt a p:=by
 cases p with| cell b off=>exact iQk (h.old b hp)| map b=>exact h.old b hp
section
variable{H:Type}{enc:TypeId × Value->H}{P:Program}
def Li{T:TypeId->Prop}(K:Kids P T)(u : ∀t e,T t->P.underlying t=some (.slice e)->0<P.cellsOf e){W m:World}(y:Kept W m){l:Nat->Bool}{a:Nat} : ∀ {b:List TypeId} {c:List Value} {ds:List (DataW H)} {ps:List MemPlace},(∀t∈b,T t) ->
 DataW.TrodAll enc P W a (λ_=>true) true b c ds ps->(∀p∈ps,l p.block=true)->DataW.TrodAll enc P m a l true b c ds ps:=by
 intro b c ds ps k h g;have j:=h.respare K u k g;have s:=h.lt;clear h g k;induction b generalizing c ds ps with
 | nil=>obtain⟨rfl,rfl,rfl⟩:=trodAll_nil j;exact trodAll_mk0
 | cons t b L=>obtain⟨v,J,d,N,p,q,rfl,rfl,rfl,⟨n,z⟩,O⟩:=trodAll_cons j;refine⟨p,q,⟨n,DataW.trod_carry n t _ _ z λx f=>y.same (s x (KS _ f))⟩,L O λx f=>s x (List.mem_append_right _ f),rfl⟩
def Tm{T:TypeId->Prop}(K:Kids P T)(Y : ∀t e,T t->P.underlying t=some (.slice e)->0<P.cellsOf e){f:Func}{s:ChangeSpec}{apart fresh a again:Bool}{W u:World}{args:Array Value}{ds gs:List (DataW H)}{d:List MemPlace}
 (hT : ∀t∈f.params.toList,T t) (N:s.vars=[]) (R:DataW.Whole enc P f.params.toList s.vars apart W args.toList ds gs d) (Z:s.fn H ds = { results:=[.lit (.bool true)],args:=ds})
 {U:TypeId} (X:f.resultTypes = #[U]) (V:P.underlying U=some .bool) (O:Kept W u):s.post enc P f apart fresh a again W args (.bool true) u:=by
 have z:=R;obtain⟨p,q,Q,S,rfl,n,m⟩:=z;rw[N]at S;obtain⟨rfl,rfl⟩:=trodVars_none S;have v:=Q.lt;have k:s.fn H (ds++[]) = { results:=[.lit (.bool true)],args:=ds}:=by rw[rI];exact Z
 have h : ∀(b:Nat)(g:Nat->Bool)(hd:Bool),DataW.TrodAll enc P u b g hd f.resultTypes.toList ((Value.bool true).resultList f.resultTypes.size) (s.fn H (ds++[])).results []:=by
  intro b g hd;rw[X,k];exact trodAll_mk1 (shut_bool V true)
 have c : ∀g:Nat->Bool,(∀x∈p,g x.block=true)->DataW.TrodAll enc P u 0 g true f.params.toList args.toList (s.fn H (ds++[])).args p:=by
  intro g L;rw[k];exact Li K Y O hT Q L
 have l : ∀g:Nat->Bool,DataW.TrodVars enc P u g s.vars (s.fn H (ds++[])).vars []:=by
  intro g;rw[N,k];rfl
 rw[rI]at m n;refine⟨ds,[],p++[],[],p,[],R,h _ _ _,c _ (λx J=>by simpa using v x J),l _,O.keptBut _,λ_=>?_⟩;have j:=trodAll_append (c (λ_=>true) (λ_ _=>rfl)) (h 0 (λ_=>true) true);rw[rI]at j;refine⟨ok_one X rfl (okWide_bool_mk V true),_,[],p++[],⟨p,[],j,(by rw[N];rfl),rfl,?_,?_⟩,λx J _=>J⟩;·intro b y hp;rw[rI]at hp;rw[O.frozen (show(⟨b,y,none⟩:Addr).block<W.heap.size from v _ hp)];exact n b y hp
 intro ha;rw[rI];exact m ha
end
def Qv{E:Env}{ok:Array Oper->Bool}(k:E.Ok ok){n:Nat}{f:FuncId}{d:List AV}(h:dv E (cD E n) f d=some (.v (.bool true))){W:World}{us:List Value}
 (j:mc (λb o=>W.cell? ⟨b,o,none⟩) dO d us):Calls E.P f us.toArray W λe c=>e = .returned (.bool true)/\Kept W c:=by
 refine((R1 k h).2 _ W us (λ_ _ _ h=>h) j).mono λe c ⟨v,M',he,hend⟩=>?_;obtain⟨ls,l,g,_⟩:=hend.res ⟨0,0,0,0⟩;have a:ao ⟨0,0,0,0⟩ depth (.v (.bool true)) []=(.v (.bool true),[]):=xh _ depth 1 _ _ rfl;rw[a]at g;cases g;exact⟨he,hend.os,hend.output,hend.size,hend.old⟩
def FH(E:Env)(l:List FuncId):Bool:=l.all λf=>match E.P.funcs[f]? with
 | some fn => !(fn.name == "runtime.NumGoroutine")&&(match fn.body with | some c=>codeOk (A9 E) c | none=>true)
 | none=>false
def ahp(ops:Array Oper)(i:Nat):Nat:=match ops[i]? with
 | some o=>(match o.dst with | some d=>d | none=>0)
 | none=>0
def yB:List (Nat × Nat × Nat × List (Tmp × Tmp))->Array Oper->List (Tmp × Tmp)
 | [],_=>[]
 | (a,b,c,l) :: d,ops=>cond (Nat.beq b ops.size) (cond (Nat.beq a (ahp ops 0)) (cond (Nat.beq c (ahp ops (b - 1))) l (yB d ops)) (yB d ops)) (yB d ops)
def Sr(e:List (Nat × Nat × Nat))(o:Oper):Bool:=match o.op with
 | .call c=>(match c.callee with
  | .builtin .append=>(match o.dst,c.args.toList with
   | some d,[.tmp a,.tmp b]=>e.any λ(x,y,z)=>Nat.beq x d&&Nat.beq y a&&Nat.beq z b
   | _,_=>false)
  | .value (.tmp t)=>(match o.dst with
   | some d=>e.any λ(x,y,z)=>Nat.beq x d&&Nat.beq y t&&Nat.beq z 66666
   | none=>false)
  | .builtin .len=>(match o.dst with
   | some d=>e.any λ(x,y,z)=>Nat.beq x d&&Nat.beq y 0&&Nat.beq z 55555
   | none=>false)
  | _=>false)
 | .buildSlice _ n _=>(match o.dst with
  | some d=>e.any λ(x,y,z)=>Nat.beq x d&&Nat.beq y n&&Nat.beq z 77777
  | none=>false)
 | _=>false
def Ws:Option Operand->Bool
 | some (.const (.slice none 0 0))=>true
 | _=>false
def adg(o:Oper):Bool:=match o.op with
 | .call c=>(match c.callee with
  | .builtin .append=>Ws c.args[0]?
  | _=>false)
 | _=>false
def Pd(a:List (Nat × Nat × Nat))(o:Oper):Bool:=match o.op with
 | .buildSlice _ n _=>(match o.dst with
  | some d=>a.any λ(x,y,z)=>Nat.beq x d&&Nat.beq y n&&Nat.beq z 88888
  | none=>false)
 | .call c=>(match o.dst with
  | some d=>a.any λ(x,y,z)=>Nat.beq x d&&((Nat.beq y 0&&Nat.beq z 88888)||(Nat.beq z 88889&&(match c.callee with
   | .value (.func g)=>Nat.beq g y
   | _=>false)))
  | none=>false)
 | _=>false
def Hz(a:List (Nat × Nat × Nat))(o:Oper):Bool:=adg o||Sr a o
def aag(P:Program)(l bD kj:List FuncId)(strict:Oper->Bool)(apart:Array Oper->List (Tmp × Tmp))(gR:Oper->Bool:=λ_=>false):Env := { gR:=gR,P:=P,strict:=strict,apart:=apart,mode:=λf=>if bD.contains f then (if kj.contains f then 3 else 1) else if kj.contains f then 2 else 0,allowed:=λf=>l.contains f,spec:=λ_ _=>none}
def wj(P:Program)(l bD kj:List FuncId)(strict:Oper->Bool:=λ_=>false)(apart:Array Oper->List (Tmp × Tmp):=λ_=>[])(gR:Oper->Bool:=λ_=>false)(F6:List (FuncId × List AV × AV):=[])(wide:Oper->Bool:=λ_=>false)(rR:FuncId->Option TypeId:=λ_=>none)(thrSpec:FuncId->List AV->aa->Option (AV × aa):=λ_ _ _=>none)(sm:Oz:=PW):Env:=
 {gR:=gR,P:=P,strict:=strict,apart:=apart,mode:=λf=>if bD.contains f then (if kj.contains f then 3 else 1) else if kj.contains f then 2 else 0,allowed:=λf=>l.contains f,spec:=LG F6,ok:=A9 (aag P l bD kj strict apart gR),wide:=wide,rR:=rR,thrSpec:=thrSpec,sm:=sm}
def XB : ∀(n:Nat)(x y:AV),KA n x y=true->x=y:=by
 intro n;induction n with
 | zero=>intro x y h;simp[KA]at h
 | succ n a=>
  intro x y h;unfold KA at h;split at h;·rw[Mv h]
  ·simp only[bo]at h;rw[sk a _ _ (kT h.1) h.2]
  ·simp only[bo,iQb]at h;rw[sk a _ _ (kT h.1.2) h.2,kT h.1.1.1,h.1.1.2]
  cases h
def Wz{a b:List AV}(h:WA a b=true):a=b:=by
 unfold WA at h;simp only[bo]at h;exact sk (XB 8) _ _ (kT h.1) h.2
def ZE{P:Program}{T:List (FuncId × List AV × AV)}(b : ∀p∈T,j5 P p.1 p.2.1 p.2.2){f:FuncId}{args:List AV}{y:AV}(h:LG T f args=some y):j5 P f args y:=by
 induction T with| nil=>cases h| cons p T c=>
  obtain⟨g,xs,z⟩:=p;unfold LG at h;split at h;·rename_i a;simp only[bo]at a;cases h;have:=b _ (j6 ..);simp only at this;rw[<-kT a.1,<-Wz a.2];exact this
  exact c (λp hp=>b p (j7 _ hp)) h
def LQ{P:Program}{l bD kj:List FuncId}{strict:Oper->Bool}{apart:Array Oper->List (Tmp × Tmp)}{gR:Oper->Bool}{F6:List (FuncId × List AV × AV)}{wide:Oper->Bool}{rR:FuncId->Option TypeId}{thrSpec:FuncId->List AV->aa->Option (AV × aa)}{sm:Oz}(hspec : ∀p∈F6,j5 P p.1 p.2.1 p.2.2)(hm:P.follows .mixedOrders=true)(h0:FH (wj P l bD kj strict apart gR) l=true)(hover : ∀f t,rR f=some t->xP P f t)(hthr : ∀f args H y H',thrSpec f args H=some (y,H')->jd P (.fn f) args H y H') :
 (wj P l bD kj strict apart gR F6 wide rR thrSpec sm).Ok (A9 (wj P l bD kj strict apart gR F6 wide rR thrSpec sm)) where
 fns:=by
  intro f hf;have h:FH (wj P l bD kj strict apart gR F6) l=true:=h0;have hf':f∈l:=by simpa [wj] using hf
  have:=gf.1 h f hf';split at this;·rename_i fn hfn;simp only[bo,iB]at this;refine⟨fn,hfn,this.1,λc hc=>?_⟩;have h2:=this.2;rw[hc]at h2;exact h2
  cases this
 specs:=λf args y h=>ZE hspec h
 same:=rfl
 overs:=hover
 thrs:=hthr
 draws:=λops hok _ hpc _ htc nt dep id st st' M ι a w ro Q hr G hO hQ=>by
  rcases GR.1 hok with h1 | h1
  ·exact N6 hm h1 hpc htc hr hO hQ
  exact N7 hm h1 hpc htc hr G hO hQ
def Iz{P:Program} : ∀p∈([]:List (FuncId × List AV × AV)),j5 P p.1 p.2.1 p.2.2:=λp hp=>by simp at hp
def L2(P:Program)(f:Func):Bool:=match f.resultTypes.toList with
 | [t]=>(match P.underlying t with | some .bool=>true | _=>false)
 | _=>false
def QB{P:Program}{f:Func}(h:L2 P f=true) : ∃a,f.resultTypes = #[a]/\P.underlying a=some .bool:=by
 unfold L2 at h;split at h
 ·rename_i t c;split at h;·rename_i b;exact⟨t,by rw[<-KL,c],b⟩
  cases h
 cases h
end Go.Ab
