/-
  Regions where stores, and what looks at memory at one place, come in any order. No statement of a seat is proved here.
-/
import Derived.ReadAgain
import Derived.OpenShut
import Derived.ChangeSame
import Derived.RowKit
import Derived.JoinedOf
import Derived.Test.YtehkjjcdkbcebaaGreatAbsDrawn
set_option linter.unusedVariables false
set_option linter.unusedSimpArgs false
set_option linter.unusedSectionVars false
set_option linter.unnecessarySimpa false
set_option linter.defProp false
namespace Go.Ab
section
structure XX (E:Env) (ops:Array Oper):Prop extends RegB ops where
 made : ∀(i:Nat)(o:Oper),ops[i]?=some o->cls E o=3->o.dst.isSome=true
 stay : ∀(i:Nat)(o:Oper),ops[i]?=some o->cls E o≠0->cls E o≠3->oh E o=false ->∃t,k5 E o=some t /\∀k,gT ops k=some t->k<i
 must : ∀(i j:Nat)(oi oj:Oper),ops[i]?=some oi->ops[j]?=some oj->j<i->oB E oi oj=true->((cW ops.toList []).getD i 0).testBit j=true
 meet : ∀(i j:Nat)(oi oj:Oper),ops[i]?=some oi->ops[j]?=some oj->j<i->Ao (cls E oi) (cls E oj)=true->oh E oi=false->oh E oj=false->((cW ops.toList []).getD i 0).testBit j=true\/settled E ops oi oj=true
def BP(E:Env)(o:Oper):cls E o<=4:=by unfold cls;(repeat' split)<;>omega
def Ue{E:Env}{ops:Array Oper}(h:Rw E ops=true):XX E ops:=by
 unfold Rw at h;rw[bD]at h;replace h:=h.2;simp only[eC,sE]at h;have one : ∀(i:Nat)(o:Oper),ops[i]?=some o->(eg o).all (· < i)=true/\MY E ops i o=true /\∀(j:Nat)(a:Oper),j<i->ops[j]?=some a->Lx E ops (cW ops.toList []) o a i j=true:=by
  intro i o e;have hi:i<ops.size:=(gv.1 e).1;have:=h i hi;rw[e]at this;simp only[bD,eC,sE]at this;refine⟨by simpa using this.1.1,this.1.2,λj a d l=>?_⟩;have s:=this.2 j d;rw[l]at s;exact s
 have c : ∀(i j:Nat)(oi a:Oper),ops[i]?=some oi->ops[j]?=some a->j<i->uP ops (cW ops.toList []) oi a i j=true /\
  (!oB E oi a||((cW ops.toList []).getD i 0).testBit j)=true/\(!Ao (cls E oi) (cls E a)||oh E oi||oh E a||((cW ops.toList []).getD i 0).testBit j||settled E ops oi a)=true:=by
  intro i j oi a hi d b;have:=(one i oi hi).2.2 j a b d;unfold Lx at this;rw[bD,bD]at this;exact⟨this.1.1,this.1.2,this.2⟩
 refine⟨Nx (λi o e=>(one i o e).1) λi j oi a hi d b=>(c i j oi a hi d b).1,?_,?_,?_,?_⟩;·intro i o e y;have:=(one i o e).2.1;unfold MY at this;rw[y]at this;exact this
 ·intro i o e z u m;have:=(one i o e).2.1;unfold MY at this;have f:KK ops i (k5 E o)=true:=by
   split at this;·exact absurd (by assumption) z
   ·exact absurd (by assumption) u
   rw[m,nk]at this;exact this
  unfold KK at f;split at f
  ·rename_i t v;refine⟨t,v,λk g=>?_⟩;simp only[eC,sE]at f;have n:k<ops.size:=by
    unfold gT at g;cases q:ops[k]? with
    | none=>rw[q]at g;cases g
    | some x=>exact(gv.1 q).1
   have:=f k n;rw[g]at this;simpa using this
  cases f
 ·intro i j oi a hi d b p;have:=(c i j oi a hi d b).2.1;rw[p]at this;simpa using this
 intro i j oi a hi d b p r1 r2;have:=(c i j oi a hi d b).2.2;rw[p,r1,r2]at this;simpa using this
def Made(H H':ab)(q:Ref):Prop:=H.gen q.d q.t<=q.g/\q.g<H'.gen q.d q.t
structure tF (H H':ab):Prop where
 gen : ∀d t,H.gen d t<=H'.gen d t
 born : ∀q,H'.get q≠none->H.get q≠none\/Made H H' q
 arr : ∀q b b',H.get q=some b->q.g<H.gen q.d q.t->H'.get q=some b'->b'.arr=b.arr
def tF.refl(H:ab):tF H H:=⟨λ_ _=>aV _,λ_ h => .inl h,λq b c h _ a=>by rw[h]at a;cases a;rfl⟩
def tF.keyed(H:ab)(d t:Nat)(bs:List aP):tF H (keyed ⟨d,t,H.gen d t,0⟩ 0 bs H):=by
 refine⟨λn t'=>?_,λq h=>?_,λq b m h l a=>?_⟩
 ·rw[ab.kG];split;·rename_i c;obtain⟨rfl,rfl,_⟩:=c;exact A9 _
  exact aV _
 ·rw[ab.lA]at h;unfold pX at h;split at h
  ·rename_i c;obtain⟨f,j,g,k⟩:=c;refine .inr ⟨?_,?_⟩;·rw[f,j,g];exact aV _
   rw[ab.kG,if_pos ⟨f,j,by intro e;rw[e]at k;simp at k⟩,g];exact oU _
  exact .inl h
 rw[ab.lA]at a;unfold pX at a;split at a;·rename_i c;obtain⟨f,j,g,k⟩:=c;rw[f,j,g]at l;exact absurd l (wX _)
 rw[h]at a;cases a;rfl
def Hz{g:cb}{R:List Ref}{q:Ref}{b c:aP}(h:g q=some b)(a:qP g R q=some c):c.arr=b.arr:=by
 unfold qP at a;split at a;·rw[h]at a;simp at a;rw[<-a]
 rw[h]at a;cases a;rfl
def EH{g:cb}{R:List Ref}{q:Ref}:qP g R q≠none->g q≠none:=by
 unfold qP;split;·intro h e;rw[e]at h;exact h rfl
 exact id
def tF.put{H:ab}{R:List Ref}{r:Ref}{b:aP}{es:List AV}(c:(bQ H R).get r=some b):tF H ((bQ H R).put r (some { b with es})):=by
 refine⟨λd t=>?_,λq h=>?_,λq b1 f h g a=>?_⟩;·rw[ab.fB _ _ _ (by rw[c];rfl),ab.fM];exact aV _
 ·rw[ab.get_put]at h;split at h;·rename_i e;subst e;exact .inl (EH (R:=R) (by rw[<-ab.cP,c];simp))
  exact .inl (EH (R:=R) (by rw[<-ab.cP];exact h))
 rw[ab.get_put]at a;split at a;·rename_i e;subst e;cases a;rw[ab.cP]at c;exact(Hz h c:b.arr=b1.arr)
 rw[ab.cP]at a;exact Hz h a
def Ie{P:Program}{H H':ab}{t:TypeId}{a x:Option AV}{y:AV}(h:iu P H t a x=some (y,H')):tF H H':=by
 unfold iu at h;split at h
 ·split at h
  ·rename_i r' i j p n _ b e;obtain⟨⟨f,k,g⟩,h⟩:=dH.1 h;split at h
   ·split at h
    ·rename_i q m;split at h;·cases h
     rename_i c;obtain⟨l,h⟩:=dH.1 h;simp only[bA]at h;obtain⟨es',d,h⟩:=h;cases h;exact tF.put (by rw[ab.cP];unfold qP;rw[if_neg c];exact e)
    cases h
   simp only[bA]at h;obtain⟨es',d,h⟩:=h;cases h;exact tF.put (R:=[]) e
  cases h
 cases h
def yy{P:Program}{H H':ab}{t t':Option TypeId}{s x y:AV}(h:iH P H t t' s x=some (y,H')) :
 ∃r b z es f,iC s=some r/\H.get r=some b/\b.arr=true/\H'=(⟨r.d,r.t,H.gen r.d r.t,0⟩,some ⟨z,es,true,f⟩) :: H.put r none:=by
 unfold iH at h;split at h;·cases h
 split at h;·cases h
 split at h
 ·split at h;·cases h
  split at h
  ·split at h;·rename_i r' c len b e;obtain⟨⟨_,a,_⟩,h⟩:=dH.1 h;cases h;exact⟨_,b,_,_,_,rfl,e,a,rfl⟩
   cases h
  cases h
 cases h
def HP{H:ab}{r:Ref}{o:Option aP}(q:Ref):ab.get ((⟨r.d,r.t,H.gen r.d r.t,0⟩,o) :: H.put r none) q=if (⟨r.d,r.t,H.gen r.d r.t,0⟩:Ref)=q then o else if q=r then none else H.get q:=by
 simp only[ab.get,ab.get_put]
def HQ{H:ab}{r:Ref}{o:Option aP}(a:(H.get r).isSome=true)(d t:Nat):ab.gen ((⟨r.d,r.t,H.gen r.d r.t,0⟩,o) :: H.put r none) d t=if r.d=d/\r.t=t then H.gen d t+1 else H.gen d t:=by
 simp only[ab.gen];rw[ab.fB _ _ _ a];split;·rename_i h;rw[h.1,h.2]
 rfl
def AR{H:ab}{r:Ref}{b g:aP}(k:H.get r=some b):tF H ((⟨r.d,r.t,H.gen r.d r.t,0⟩,some g) :: H.put r none) /\∀q,ab.get ((⟨r.d,r.t,H.gen r.d r.t,0⟩,some g) :: H.put r none) q≠H.get q->Made H ((⟨r.d,r.t,H.gen r.d r.t,0⟩,some g) :: H.put r none) q\/q=r:=by
 have h:(H.get r).isSome=true:=by rw[k];rfl
 have a : ∀q,(⟨r.d,r.t,H.gen r.d r.t,0⟩:Ref)=q->Made H ((⟨r.d,r.t,H.gen r.d r.t,0⟩,some g) :: H.put r none) q:=by
  intro q e;subst e;refine⟨aV _,?_⟩;rw[HQ h,if_pos ⟨rfl,rfl⟩];exact oU _
 refine⟨⟨λd t=>?_,λq c=>?_,λq b1 g j l f=>?_⟩,λq c=>?_⟩;·rw[HQ h];split<;>omega
 ·rw[HP]at c;split at c;·rename_i e;exact .inr (a q e)
  split at c;·exact absurd rfl c
  exact .inl c
 ·rw[HP]at f;split at f;·rename_i e;subst e;exact absurd l (wX _)
  split at f;·cases f
  rw[j]at f;cases f;rfl
 rw[HP]at c;split at c;·rename_i e;exact .inl (a q e)
 split at c;·rename_i e;exact .inr e
 exact absurd rfl c
def GV{P:Program}{H H':ab}{t t':Option TypeId}{s x y:AV}(h:iH P H t t' s x=some (y,H')):tF H H' /\∃r,iC s=some r /\∀q,H'.get q≠H.get q->Made H H' q\/q=r:=by
 obtain⟨r,b,z,es,f,d,a,c,rfl⟩:=yy h;exact⟨(AR a).1,r,d,(AR a).2⟩
def Fe{P:Program}{H H':ab}{r:Ref}(a:r.k=0){t:TypeId}{n:Nat}{c:Option (List (Nat × AV))}{x:AV}(h:oV P H r t n c=some (x,H')) : ∃b,H'=keyed r 0 [b] H:=by
 obtain⟨d,t0,g,k⟩:=r;simp only at a;subst a;unfold oV at h;split at h
 ·split at h;·obtain⟨_,h⟩:=dH.1 h;cases h;exact⟨_,rfl⟩
  cases h
 cases h
def Il{P:Program}{H H':ab}{r:Ref}(a:r.k=0){t t':Option TypeId}{s x y:AV}(h:wg P H r t t' s x=some (y,H')):(∃b,H'=keyed r 0 [b] H) \/∃q b e,iC s=some q/\H.get q=some b/\H'=(⟨q.d,q.t,H.gen q.d q.t,0⟩,some e) :: H.put q none:=by
 obtain⟨d,t0,g,k⟩:=r;simp only at a;subst a;unfold wg at h;split at h
 ·split at h;·cases h
  split at h
  ·split at h;·cases h
   split at h;·obtain⟨_,h⟩:=dH.1 h;cases h;exact .inl ⟨_,rfl⟩
   ·split at h;·rename_i b c;obtain⟨_,h⟩:=dH.1 h;cases h;exact .inr ⟨_,b,_,rfl,c,rfl⟩
    cases h
   cases h
  cases h
 cases h
def Rt{a:Op}{t:Tmp}(h:Je a=some t):V2 a=false:=by
 unfold Je at h;split at h;all_goals first | rfl | cases h
def Seen(g a:cb)(v:AV):Prop :=∀q,iC v=some q->g q≠none->a q=g q
def sI{g c:cb}{v:AV}(h:Seen g c v){q:Ref}(d:iC v=some q){b:aP}(a:g q=some b):c q=some b:=by rw[h q d (by rw[a];simp),a]
def Ef{P:Program}{g e:cb}{t:TypeId}{v x:AV}{bs:List aP}(h:mP P g t (some v)=some (x,bs))(f:Seen g e v):bs=[]/\mP P e t (some v)=some (x,bs):=by
 unfold mP at h ⊢;cases v<;>(try (simp at h;done))
 ·rename_i r i j;cases a:eD P t<;>cases d:av P t<;>rw[a,d]at h<;>(try (simp at h;done));simp only at h ⊢;cases c:g r with
  | none=>rw[c]at h;simp at h
  | some b=>rw[c]at h;rw[sI f rfl c];exact⟨(oZ h).2,h⟩
 cases a:eD P t<;>cases d:av P t<;>rw[a,d]at h<;>(try (simp at h;done));exact⟨(oZ h).2,h⟩
def wx{P:Program}{g m:cb}{t:TypeId}{v x:AV}{f:Option AV}{bs:List aP}(h:bI P g t (some v) f=some (x,bs))(n:Seen g m v):bs=[]/\bI P m t (some v) f=some (x,bs):=by
 unfold bI at h ⊢;cases l:f.bind intOf with
 | none=>rw[l]at h;simp at h
 | some k=>
 rw[l]at h;simp only at h ⊢;cases he:de P t with
 | some e=>
  rw[he]at h;simp only at h ⊢;cases c:av P e with
  | none=>rw[c]at h;cases v<;>simp at h
  | some z=>
  rw[c]at h;cases v<;>(try (simp at h;done));·simp only at h ⊢;exact⟨by obtain⟨_,h⟩:=dH.1 h;cases h;rfl,h⟩
  ·rename_i r d len cap;simp only at h ⊢;cases a:g r with
   | none=>rw[a]at h;simp at h
   | some b=>rw[a]at h;rw[sI n rfl a];exact⟨by obtain⟨_,h⟩:=dH.1 h;cases h;rfl,h⟩
  rename_i r d len cap;simp only at h ⊢;cases a:g r with
  | none=>rw[a]at h;simp at h
  | some b=>rw[a]at h;rw[sI n rfl a];exact⟨by obtain⟨_,h⟩:=dH.1 h;cases h;rfl,h⟩
 | none=>
  rw[he]at h;simp only at h ⊢;refine⟨?_,h⟩;cases j:lK P t with
  | none=>rw[j]at h;simp at h
  | some p=>
  rw[j]at h;cases c:av P p.2 with
  | none=>simp only[c]at h;cases v<;>simp at h
  | some z=>
  simp only[c]at h;cases v<;>(try (simp at h;done));·obtain⟨_,h⟩:=dH.1 h;cases h;rfl
  obtain⟨_,h⟩:=dH.1 h;cases h;rfl
def Ci{P:Program}{g k:cb}{t:TypeId}{v x:AV}{lo hi j:Option (Option Int)}{bs:List aP}(h:dm P g t (some v) lo hi j=some (x,bs))(l:Seen g k v):bs=[]/\dm P k t (some v) lo hi j=some (x,bs):=by
 have nil : ∀ {c:Prop} [Decidable c] {o:Option (Nat × Nat × Option Nat)} {f:Nat × Nat × Option Nat->AV × List aP},(∀p,(f p).2=[])->(if c then o.map f else none)=some (x,bs)->bs=[]:=by
  intro c _ o f m h;obtain⟨_,h⟩:=dH.1 h;obtain⟨p,_,h⟩:=bA.1 h;have:=m p;rw[h]at this;exact this
 unfold dm at h ⊢;cases lo<;>cases hi<;>cases j<;>(try (simp at h;done));simp only at h ⊢;cases v<;>(try (simp at h;done))
 ·rename_i y;cases y<;>(try (simp at h;done));·simp only at h ⊢;exact⟨nil (λ_=>rfl) h,h⟩
  split at h;·rename_i e;simp only[du,AV.v.injEq,Value.slice.injEq]at e;obtain⟨rfl,rfl,rfl⟩:=e;exact⟨nil (λ_=>rfl) h,h⟩
  ·rename_i e;simp at e
  ·rename_i e;simp at e
  ·rename_i e;simp at e
  ·rename_i e;simp at e
  cases h
 ·simp only at h ⊢;exact⟨nil (λ_=>rfl) h,h⟩
 ·rename_i r d len cap;simp only at h ⊢;cases a:g r with
  | none=>rw[a]at h;simp at h
  | some b=>rw[a]at h;rw[sI l rfl a];exact⟨nil (λ_=>rfl) h,h⟩
 rename_i r d len cap;simp only at h ⊢;cases a:g r with
 | none=>rw[a]at h;simp at h
 | some b=>rw[a]at h;rw[sI l rfl a];exact⟨nil (λ_=>rfl) h,h⟩
def HC{g c:cb}{v:AV}{p:Nat × List AV}(h:cr g v=some p)(e:Seen g c v):cr c v=some p:=by
 unfold cr at h ⊢;cases v<;>(try (simp at h;done));·rename_i y;cases y<;>first | exact h | (simp at h;done)
 ·exact h
 rename_i r d len cap;simp only at h ⊢;cases a:g r with
 | none=>rw[a]at h;simp at h
 | some b=>rw[a]at h;rw[sI e rfl a];exact h
def yH{P:Program}{g f:cb}{r r':Ref}{src dst:TypeId}{v x:AV}{bs:List aP}(k:cM P dst=false)(h:bM P g r src dst (some v)=some (x,bs))(m:Seen g f v) :
 bs=[]/\bM P f r' src dst (some v)=some (x,bs):=by
 have other : ∀ {y:AV},y=v->(if cM P src&&isStr P dst then
  match cr g y with
  | some (_,es)=>(es.mapM byteOf).map λl=>((AV.v (.string ⟨l.toArray⟩),[]):AV × List aP)
  | none=>none
  else if src == dst&&cM P src then
   match y with
   | .bO r' _ _ _=>(match g r' with
    | some b=>if b.esz=1 then some (y,[]) else none
    | none=>none)
   | _=>none
  else none)=some (x,bs)->bs=[]/\(if cM P src&&isStr P dst then
   match cr f y with
   | some (_,es)=>(es.mapM byteOf).map λl=>((AV.v (.string ⟨l.toArray⟩),[]):AV × List aP)
   | none=>none
  else if src == dst&&cM P src then
   match y with
   | .bO r' _ _ _=>(match f r' with
    | some b=>if b.esz=1 then some (y,[]) else none
    | none=>none)
   | _=>none
  else none)=some (x,bs):=by
  intro y e h;split at h
  ·rename_i j;rw[if_pos j];cases he:cr g y with
   | none=>rw[he]at h;simp at h
   | some p=>rw[he]at h;rw[HC he (e ▸ m)];refine⟨?_,h⟩;obtain⟨_,_,h⟩:=bA.1 h;cases h;rfl
  rename_i j;split at h;·rename_i d;simp only[bD,iQk]at d;rw[d.1,k]at d;simp at d
  cases h
 unfold bM at h ⊢;cases v;case v y=>
  cases y;case string s=>
   simp only[k,vZ,hU,iQf]at h ⊢;exact⟨by obtain⟨_,h⟩:=dH.1 h;cases h;rfl,h⟩
  case slice a l c=>
   rcases a with _ | a
   ·rcases l with _ | l
    ·rcases c with _ | c
     ·exact⟨by obtain⟨_,h⟩:=dH.1 h;cases h;rfl,h⟩
     exact⟨(oZ h).2,h⟩
    exact⟨(oZ h).2,h⟩
   exact⟨(oZ h).2,h⟩
  all_goals exact⟨(oZ h).2,h⟩
 all_goals exact other rfl h
def Bk{P:Program}{H H':ab}{d t0:Nat}{t:TypeId}{n:Nat}{k:List (Nat × AV)}{x:AV}(h:iT P H ⟨d,t0,H.gen d t0,0⟩ t n (some k)=some (x,H')):tF H H' /\∀q,H'.get q≠H.get q->Made H H' q\/q∈bW H.get (k.map (·.2)):=by
 simp only[iT,bA]at h;obtain⟨b,v,h⟩:=h;injection h with z m
 subst m;generalize y:bW H.get (k.map (·.2))=R;have c : ∀q,ab.get ((⟨d,t0,H.gen d t0,0⟩,some b) :: bQ H R) q=if (⟨d,t0,H.gen d t0,0⟩:Ref)=q then some b else qP H.get R q:=by
  intro q;simp only[ab.get,ab.cP]
 have g : ∀j t',ab.gen ((⟨d,t0,H.gen d t0,0⟩,some b) :: bQ H R) j t'=if d=j/\t0=t' then H.gen d t0+1 else H.gen j t':=by
  intro j t';simp only[ab.gen,ab.fM]
 have a : ∀q,(⟨d,t0,H.gen d t0,0⟩:Ref)=q->Made H ((⟨d,t0,H.gen d t0,0⟩,some b) :: bQ H R) q:=by
  intro q e;subst e;refine⟨aV _,?_⟩;rw[g,if_pos ⟨rfl,rfl⟩];exact oU _
 refine⟨⟨λj t'=>?_,λq f=>?_,λq b1 J p u l=>?_⟩,λq f=>?_⟩
 ·rw[g];split;·rename_i e;rw[<-e.1,<-e.2];exact A9 _
  exact aV _
 ·rw[c]at f;split at f;·rename_i e;exact .inr (a q e)
  exact .inl (EH f)
 ·rw[c]at l;split at l;·rename_i e;subst e;exact absurd u (wX _)
  exact Hz p l
 rw[c]at f;split at f;·rename_i e;exact .inl (a q e)
 unfold qP at f;split at f;·rename_i s;exact .inr s
 exact absurd rfl f
def z9{P:Program}{g f:cb}{t:TypeId}{v x:AV}{k:Option AV}{ok:Bool}{bs:List aP}(h:jQ P g t (some v) k ok=some (x,bs))(l:Seen g f v):bs=[]/\jQ P f t (some v) k ok=some (x,bs):=by
 unfold jQ at h ⊢;cases v<;>(try (simp at h;done));rename_i r;cases e:Ix P t with
 | none=>rw[e]at h;simp at h
 | some p=>
 obtain⟨q,m⟩:=p;cases j:k.bind ir with
 | none=>rw[e,j]at h;simp at h
 | some n=>
 rw[e,j]at h;simp only at h ⊢;cases hm:kA g r with
 | none=>rw[hm]at h;simp at h
 | some a=>
 have d:kA f r=some a:=by
  unfold kA at hm ⊢;cases c:g r with
  | none=>rw[c]at hm;simp at hm
  | some b=>rw[c]at hm;rw[sI l rfl c];exact hm
 rw[d];rw[hm]at h;refine⟨?_,h⟩;simp only at h;split at h
 ·split at h;·obtain⟨_,_,h⟩:=bA.1 h;cases h;rfl
  ·obtain⟨_,_,h⟩:=bA.1 h;cases h;rfl
  cases h
 cases h
def Sj{E:Env}{pc:FuncId->List AV->Option AV}{g k:cb}{tm:List AV}{r:Ref}{o:Oper}(b:blind E o=true){x:AV}{bs:List aP}(h:ca E pc true g tm r o=some (x,bs)) :
 ca E pc true k tm r o=some (x,bs):=by
 unfold blind at b;replace b:=(re.1 b).2;split at b;·rename_i a;unfold ca at h ⊢;simp only[a]at h ⊢;exact h
 ·rename_i a;unfold ca at h ⊢;simp only[a]at h ⊢;exact h
 ·rename_i c a;obtain⟨e,d⟩:=re.1 b;split at d
  ·rename_i f j;have l:c.args.toList=[]:=by simpa using e
   unfold ca at h ⊢;simp only[a,l,j,vu,Gw,oT,ar,jR,ko,bW,Dm]at h ⊢;exact h
  cases d
 cases b
def LF{E:Env}{o:Oper}(h:LG E o=true):blind E o=true:=by
 unfold LG at h;unfold blind;obtain⟨c,b⟩:=re.1 h;rw[c,kX];split at b;·rename_i a;rw[a]
 ·rename_i a;rw[a]
 cases b
def OS{E:Env}{oi a:Oper}(h:blind E oi=false):ng E oi a=false:=by
 unfold ng;cases b:LG E oi with
 | false=>rfl
 | true=>rw[LF b]at h;cases h
def nf{E:Env}{oi a:Oper}(h:cls E oi≠3):ng E oi a=false:=by
 unfold ng LG;rw[beq_false_of_ne h];rfl
def OT{E:Env}{oi a:Oper}(h:((BR a.op).isSome&&a.dst.isSome && !AH E a)=false):ng E oi a=false:=by
 unfold ng;rw[h,vZ]
def LD{E:Env}{pc:FuncId->List AV->Option AV}{g:cb}{tm:List AV}{r:Ref}{o:Oper}(b:LG E o=true){x:AV}{bs:List aP}(h:ca E pc true g tm r o=some (x,bs)):bs≠[]:=by
 unfold LG at b;replace b:=(re.1 b).2;split at b
 ·rename_i a;unfold ca at h;simp only[a]at h;unfold tn at h;split at h
  ·split at h;·cases h;simp
   cases h
  cases h
 ·rename_i a;unfold ca at h;simp only[a]at h;cases h;simp
 cases b
def NV{E:Env}{pc:FuncId->List AV->Option AV}{tc:qJ->List AV->ab->bU}{nt dep:Nat}{ops:Array Oper}{o:Oper}{st f:St}{t:Tmp}(g:AH E o=false)(a:BR o.op=some t)(u:wanted ops st.tm o=some true)(h:evalOp E pc tc nt dep true ops o st=some f) :
 (∃x bs tm',ca E pc true st.hp.get st.tm ⟨dep,o.dst.getD 0,st.hp.gen dep (o.dst.getD 0),0⟩ o=some (x,bs)/\cG nt st.tm o.dst x=some tm'/\f=⟨tm',keyed ⟨dep,o.dst.getD 0,st.hp.gen dep (o.dst.getD 0),0⟩ 0 bs st.hp⟩) \/
 ∃c y z x,o.op = .call c/\c.callee = .builtin .append/\c.args.toList.mapM (ar st.tm)=some [y,z]/\iH E.P st.hp c.argTypes[0]? c.argTypes[1]? y z=some (x,f.hp)/\y=dc st.tm t/\cG nt st.tm o.dst x=some f.tm:=by
 unfold evalOp at h;simp only[vK g,pT g]at h;rw[u]at h;simp only at h;split at h;·rename_i x bs v;simp only[bA]at h;obtain⟨tm',k,rfl⟩:=h;exact .inl ⟨x,bs,tm',v,k,rfl⟩
 split at h;·cases h
 split at h
 ·rename_i x H d;simp only[bA]at h;obtain⟨tm',k,rfl⟩:=h;refine .inr ?_;unfold BR at a;split at a
  ·rename_i c m;split at a
   ·rename_i q;split at a
    ·rename_i t' rest b;cases a;unfold evalW at d;simp only[m,q,b]at d;cases hm:List.mapM (ar st.tm) (Operand.tmp t :: rest) with
     | none=>rw[hm]at d;simp at d
     | some args=>
      rw[hm]at d;have j:=hm;simp only[lH,ar,oT,pt,cR,fH]at hm;obtain⟨l,J,e⟩:=hm;simp at e;subst e;simp only at d;split at d;·rename_i s y n p;cases p;exact⟨c,_,_,x,m,q,by rw[b];exact j,d,rfl,k⟩
      ·rename_i n p;cases n
      cases d
    cases a
   cases a
  cases a
 cases h
def look_nil{E:Env}{pc:FuncId->List AV->Option AV}{g:cb}{tm:List AV}{r:Ref}{o:Oper}{t:Tmp}(d:yM E.P o.op=some t){x:AV}{bs:List aP}(h:ca E pc true g tm r o=some (x,bs)) :
 bs=[] /\∀f r',Seen g f (dc tm t)->ca E pc true f tm r' o=some (x,bs):=by
 unfold yM at d;split at d;·rename_i ty t' a;cases d;unfold ca at h ⊢;simp only[a]at h ⊢;exact⟨(Ef h (λ_ _ _=>rfl)).1,λf r' e=>(Ef h e).2⟩
 ·rename_i ty t' O a;cases d;unfold ca at h ⊢;simp only[a]at h ⊢;exact⟨(wx h (λ_ _ _=>rfl)).1,λf r' e=>(wx h e).2⟩
 ·rename_i ty t' lo hi N a;cases d;unfold ca at h ⊢;simp only[a,tN,vZ,iQp]at h ⊢;exact⟨(Ci h (λ_ _ _=>rfl)).1,λf r' e=>(Ci h e).2⟩
 ·rename_i src dst t' a;split at d;·cases d
  rename_i y;cases d;unfold ca at h ⊢;simp only[a]at h ⊢;have j:cM E.P dst=false:=by simpa using y
  exact⟨(yH (r':=r) j h (λ_ _ _=>rfl)).1,λf r' e=>(yH j h e).2⟩
 ·rename_i ty t' k ok a;cases d;unfold ca at h ⊢;simp only[a]at h ⊢;exact⟨(z9 h (λ_ _ _=>rfl)).1,λf r' e=>(z9 h e).2⟩
 ·rename_i c a;split at d
  ·rename_i K;split at d
   ·rename_i t' l;cases d;unfold ca at h ⊢;simp only[a,l,K,lH,Gw,ar,oT,pt,cR]at h ⊢;cases z:dc tm t with
    | mp q=>
     rw[z]at h;simp only[dX]at h ⊢;obtain⟨L,h⟩:=Kx.1 h;simp only[if_neg L];refine⟨?_,λf r' e=>?_⟩
     ·unfold yb at h;split at h;·cases h;rfl
      cases h
     unfold yb at h ⊢;split at h
     ·rename_i p m J s;have v:kA f q=some m:=by
       unfold kA at s ⊢;cases u:g q with
       | none=>rw[u]at s;simp at s
       | some b=>rw[u]at s;rw[sI e rfl u];exact s
      simp only[J,v];exact h
     cases h
    | _=>rw[z]at h;simp only[dX]at h ⊢;refine⟨?_,λf r' e=>h⟩;unfold Fl at h;(repeat' split at h)<;>(try simp_all)<;>(try (obtain⟨_,_,_,h⟩:=h;exact h))<;>(try (obtain⟨n,_,h⟩:=fH.1 h;simp at h;exact h.2))
   cases d
  cases d
 cases d
end
section
section
variable{E:Env}{o:Oper}
def EP(h:cls E o=0):tH E o=false:=by
 unfold cls at h;cases a:tH E o with
 | false=>rfl
 | true=>rw[a]at h;simp only[if_true]at h;(repeat' split at h)<;>omega
def HF(h:cls E o=1) : ∃t,yM E.P o.op=some t/\k5 E o=some t/\fQ E o=false:=by
 unfold cls at h;split at h
 ·split at h;·cases h
  rename_i d;split at h
  ·rename_i f;obtain⟨t,a⟩:=fP.1 f;refine⟨t,a,?_,?_⟩;·have:storeT o.op=none:=(by simpa using d);simp[k5,this,a]
   unfold fQ;have:Wc E o.op=false/\xK o.op=false:=by
    unfold yM at a;split at a<;>(try (rename_i b;rw[b];exact⟨rfl,rfl⟩))
    ·rename_i c b;split at a;·rename_i e;rw[b];simp[Wc,xK,e]
     cases a
    cases a
   rw[this.1,this.2];simp
  split at h<;>cases h
 cases h
def No(h:cls E o=2) : ∃ty t x,o.op = .store ty (.tmp t) x/\k5 E o=some t:=by
 unfold cls at h;split at h
 ·split at h
  ·rename_i d;obtain⟨t,a⟩:=fP.1 d;have c:=a;unfold storeT at a;split at a;·rename_i ty t' x b;cases a;exact⟨ty,t,x,b,by simp[k5,c]⟩
   cases a
  (repeat' split at h)<;>cases h
 cases h
def yl(h:cls E o=3):tH E o=true/\fQ E o=false:=by
 unfold cls at h;split at h
 ·rename_i a;split at h;·cases h
  split at h;·cases h
  split at h;·cases h
  rename_i b;exact⟨a,by simpa using b⟩
 cases h
def JW(h:cls E o=4):k5 E o=if xK o.op then V7 o.op else DQ o.op:=by
 unfold cls at h;split at h
 ·split at h;·cases h
  rename_i b;split at h;·cases h
  rename_i c;have a:storeT o.op=none:=by simpa using b
  have d:yM E.P o.op=none:=(by simpa using c);simp[k5,a,d]
 cases h
end
def IU{E:Env}{o:Oper}(h:oh E o=true) : ∃c g,o.op = .call c/\c.callee = .value (.func g)/\E.mode g=2/\E.fI o=true/\E.strict o=false:=by
 unfold oh at h;rw[bD,bD]at h;obtain⟨⟨d,e⟩,a⟩:=h;split at a
 ·rename_i c b;split at a;·rename_i g f;exact⟨c,g,b,f,by simpa using a,d,by simpa using e⟩
  cases a
 cases a
def Oh{E:Env}{o:Oper}(h:oh E o=true):cls E o=4/\k5 E o=none:=by
 obtain⟨c,g,a,b,hm,n,m⟩:=IU h;have e:storeT o.op=none:=by rw[a];rfl
 have f:yM E.P o.op=none:=by rw[a];simp[yM,b]
 have p:iJ o.op=true:=by rw[a];simp[iJ,b]
 have d:fQ E o=true:=by simp[fQ,m,a,Wc,b,hm]
 have k:DQ o.op=none:=by rw[a];simp[DQ,Je,BR,b]
 have j:xK o.op=false:=by rw[a];rfl
 refine⟨?_,?_⟩;·have l:tH E o=true:=fL d;simp[cls,e,f,l,d]
 simp[k5,e,f,k,j]
def pO{E:Env}{o:Oper}{t:Tmp}(h:k5 E o=some t):oh E o=false:=by
 cases a:oh E o with| false=>rfl| true=>rw[(Oh a).2]at h;cases h
def Rs{E:Env}{pc:FuncId->List AV->Option AV}{tc:qJ->List AV->ab->bU}{H H':ab}{tm:List AV}{r:Ref}{o:Oper}{t:Tmp}(f:Je o.op=some t){x:AV}(h:evalW E pc tc H tm r o=some (x,H')) :
 ∃q a b,iC (dc tm t)=some q/\kA H.get q=some a/\H'=H.put q (some (nJ b)):=by
 have g : ∀ {ty:TypeId} {m:AV} {k v:Option AV} {y:AV} {H':ab},gN E.P H ty (some m) k v=some (y,H') ->∃q a b,iC m=some q/\kA H.get q=some a/\H'=H.put q (some (nJ b)):=by
  intro ty m k v y H' h;unfold gN at h;split at h
  ·rename_i s l q k' J j d;simp only[du]at d;subst d;split at h
   ·rename_i p a z e;split at h
    ·split at h
     ·split at h;·cases h;exact⟨q,a,_,rfl,e,rfl⟩
      cases h
     ·cases h;exact⟨q,a,_,rfl,e,rfl⟩
     cases h
    cases h
   cases h
  cases h
 unfold Je at f;split at f;·rename_i c;cases f;unfold evalW at h;simp only[c,ar]at h;exact g h
 ·rename_i c;cases f;unfold evalW at h;simp only[c,ar]at h;exact g h
 ·rename_i ty t' k c;cases f;unfold evalW at h;simp only[c,ar]at h;unfold ou at h;split at h
  ·rename_i s l q k' j d u;split at h
   ·rename_i p a z e;split at h
    ·split at h
     ·split at h;·simp only[bA]at h;obtain⟨v,_,h⟩:=h;cases h;simp only[du]at d;exact⟨q,a,_,by rw[d];rfl,e,rfl⟩
      cases h
     ·simp only[bA]at h;obtain⟨v,_,h⟩:=h;cases h;simp only[du]at d;exact⟨q,a,_,by rw[d];rfl,e,rfl⟩
     cases h
    cases h
   cases h
  cases h
 ·rename_i k t' m J c;cases f;unfold evalW at h;simp only[c,ar]at h;unfold jI at h;split at h
  ·rename_i q K n L j d u;split at h
   ·rename_i a e;split at h
    ·split at h;·cases h;simp only[du]at j;exact⟨q,a,_,by rw[j];rfl,e,rfl⟩
     cases h
    cases h
   cases h
  cases h
 cases f
def OM{g:cb}{r:Ref}{a:List AV}(h:kA g r=some a) : ∃b,g r=some b/\b.arr=false:=by
 unfold kA at h;split at h;·rename_i e;exact⟨_,e,rfl⟩
 cases h
def tF.map{H:ab}{r:Ref}{c a:List AV}(j:kA H.get r=some c):tF H (H.put r (some (nJ a))):=by
 obtain⟨l,f,g⟩:=OM j;refine⟨λd t=>?_,λq h=>?_,λq b1 k h m b=>?_⟩;·rw[ab.fB _ _ _ (by rw[f];rfl)];exact aV _
 ·rw[ab.get_put]at h;split at h;·rename_i e;subst e;exact .inl (by rw[f];simp)
  exact .inl h
 rw[ab.get_put]at b;split at b;·rename_i e;subst e;cases b;rw[f]at h;cases h;rw[g];rfl
 rw[h]at b;cases b;rfl
def Sv{E:Env}{pc:FuncId->List AV->Option AV}{tc:qJ->List AV->ab->bU}{H H':ab}{tm:List AV}{r:Ref}{o:Oper}{t:Tmp}(a:BR o.op=some t){x:AV}(h:evalW E pc tc H tm r o=some (x,H')) :
 ∃t1 t2 y z,iC y=iC (dc tm t)/\iH E.P H t1 t2 y z=some (x,H'):=by
 unfold BR at a;split at a
 ·rename_i c d;split at a
  ·rename_i j;split at a
   ·rename_i t' rest b;cases a;unfold evalW at h;simp only[d,j,b]at h;cases hm:List.mapM (ar tm) (Operand.tmp t :: rest) with
    | none=>rw[hm]at h;simp at h
    | some args=>
     rw[hm]at h;simp only[lH,ar,oT,pt,cR,fH]at hm;obtain⟨l,a,e⟩:=hm;simp at e;subst e;simp only at h;split at h;·rename_i s y f g;cases g;exact⟨_,_,_,_,rfl,h⟩
     ·rename_i f g;cases f
     cases h
   cases a
  cases a
 cases a
def Pg{E:Env}{H H':ab}{tm:List AV}{d t0:Nat}{o:Oper}{t:Tmp}(a:BR o.op=some t){x:AV}(h:uI E H tm ⟨d,t0,H.gen d t0,0⟩ o=some (x,H')) :
 (∃b,H'=keyed ⟨d,t0,H.gen d t0,0⟩ 0 [b] H) \/∃q b j,iC (dc tm t)=some q/\H.get q=some b/\H'=(⟨q.d,q.t,H.gen q.d q.t,0⟩,some j) :: H.put q none:=by
 unfold BR at a;split at a
 ·rename_i c g;split at a
  ·rename_i k;split at a
   ·rename_i t' rest f;cases a;unfold uI at h;simp only[g,f]at h;cases hm:List.mapM (ar tm) (Operand.tmp t :: rest) with
    | none=>rw[hm]at h;cases h
    | some args=>
     rw[hm]at h;simp only[lH,ar,oT,pt,cR,fH]at hm;obtain⟨l,a,e⟩:=hm;simp at e;subst e;split at h;·rename_i e;cases e;exact Il rfl h
     cases h
   cases a
  cases a
 cases a
def KA{P:Program}{H H':ab}{t:TypeId}{a x:Option AV}{y:AV}(h:iu P H t a x=some (y,H'))(d k:Nat):H'.gen d k=H.gen d k:=by
 unfold iu at h;split at h
 ·split at h
  ·rename_i r' i j s n _ b f;obtain⟨⟨g,m,l⟩,h⟩:=dH.1 h;split at h
   ·split at h
    ·rename_i u q;split at h;·cases h
     rename_i c;obtain⟨p,h⟩:=dH.1 h;simp only[bA]at h;obtain⟨es',e,h⟩:=h;cases h;rw[ab.fB _ _ _ (by rw[ab.cP];unfold qP;rw[if_neg c,f];rfl),ab.fM]
    cases h
   simp only[bA]at h;obtain⟨es',e,h⟩:=h;cases h;rw[ab.fB _ _ _ (by rw[f];rfl)]
  cases h
 cases h
def IB{P:Program}{M:Mem}{ι:Map}{g:cb}{w:World}(q:fk M ι g w){t:TypeId}{n:Nat}(z:av P t=some n){r:Ref}{i j:Nat}{x:AV}{s e:Value}(Q:VR M ι (.ptr r i j) s)(N:VR M ι x e)
 {b:aP} (u:g r=some b) (R:x.cells.length=n) (m:x.cells.all AV.one=true) (k:b.fI=false) (d:b.arr=false) {es':List AV} (p:eA b.es i j x.cells=some es') :
 ∃w',(Instr.storeAt t s e).run P w = .ok () w'/\fk M ι (j3 g r { b with es:=es'}) w'/\qX M ι g w M ι (j3 g r { b with es:=es'}) w':=by
 cases Q with | ptr v a=>
 rename_i l;have h:=q.at v a u;have c:=N.cells;have f:e.cells.size=n:=by have:=c.1;simp at this;omega
 obtain⟨arr,T,fz,O,J,S,L,y,K⟩:=Du q u v a k p m (us:=e.cells.toList) (by rw[aP.map,if_neg (by simp[d])];exact c);refine⟨bP w l.b (.cells (cd arr (i * b.esz+j) e.cells.toList) T fz),?_,y,K⟩;rw[h.esz];exact xm z f O J S L
section
variable{E:Env}{pc:FuncId->List AV->Option AV}{tc:qJ->List AV->ab->bU}{nt dep:Nat}{ops:Array Oper}{sts:Nat->St}
variable(C:XX E ops)(A : ∀i o,ops[i]?=some o->evalOp E pc tc nt dep true ops o (sts i)=some (sts (i+1)))
abbrev makes(sts:Nat->St)(j:Nat)(q:Ref):Prop:=Made (sts j).hp (sts (j+1)).hp q
abbrev turns(sts:Nat->St)(j:Nat)(q:Ref):Prop:=(sts (j+1)).hp.get q≠(sts j).hp.get q
theorem Tm{o:Oper}{st c:St}{t:Tmp}(a:V7 o.op=some t)(h:evalOp E pc tc nt dep true ops o st=some c) :
 c.hp=st.hp\/(∃bs,c.hp=keyed ⟨dep,o.dst.getD 0,st.hp.gen dep (o.dst.getD 0),0⟩ 0 bs st.hp) \/∃t1 n i x,AH E o=false/\iT E.P st.hp ⟨dep,o.dst.getD 0,st.hp.gen dep (o.dst.getD 0),0⟩ t1 n (some [(i,dc st.tm t)])=some (x,c.hp):=by
 unfold evalOp at h;split at h;·cases h
 ·simp only[bA]at h;obtain⟨tm',g,rfl⟩:=h;exact .inl rfl
 split at h;·rename_i x bs l;simp only[bA]at h;obtain⟨tm',g,rfl⟩:=h;exact .inr (.inl ⟨bs,rfl⟩)
 split at h;·cases h
 split at h
 ·rename_i x H d;simp only[bA]at h;obtain⟨tm',g,rfl⟩:=h;unfold V7 at a;split at a
  ·rename_i t1 n ps f;split at a
   ·rename_i i t' e;cases a;cases j:AH E o with
    | true=>unfold pU uI at d;rw[j]at d;simp only[yv,iQn,f]at d;obtain⟨b,k⟩:=Fe rfl d;exact .inr (.inl ⟨[b],k⟩)
    | false=>
    rw[pT j]at d;unfold evalW at d;simp only[f,e]at d;exact .inr (.inr ⟨t1,n,i,x,rfl,d⟩)
   cases a
  cases a
 cases h
theorem xU{o:Oper}{st c:St}(a:cls E o=0\/cls E o=1)(h:evalOp E pc tc nt dep true ops o st=some c):c.hp=st.hp:=by
 rcases mT h with ⟨_,tm',d,he⟩ | ⟨_,x,bs,e,tm',d,he⟩ | b
 ·rw[he]
 ·rw[he];rcases a with a | a
  ·rw[(uu (EP a) e).1];rfl
  obtain⟨t,d,_,_⟩:=HF a;rw[(look_nil d e).1];rfl
 rcases a with a | a
 ·have:=EP a;rw[fL b]at this;cases this
 obtain⟨t,d,_,hw⟩:=HF a;rw[hw]at b;cases b
theorem DX{o:Oper}{st a:St}{ty:TypeId}{t:Tmp}{xo:Operand}(b:o.op = .store ty (.tmp t) xo)(h:evalOp E pc tc nt dep true ops o st=some a)(g:wanted ops st.tm o=some true) :
 ∃y,iu E.P st.hp ty (some (dc st.tm t)) (ar st.tm xo)=some (y,a.hp)/\cG nt st.tm o.dst y=some a.tm:=by
 have c:AH E o=false:=by simp[AH,V2,b]
 unfold evalOp at h;simp only[vK c,pT c]at h;rw[g]at h;have f:ca E pc true st.hp.get st.tm ⟨dep,o.dst.getD 0,st.hp.gen dep (o.dst.getD 0),0⟩ o=none:=by unfold ca;simp only[b]
 rw[f]at h;simp only at h;split at h;·cases h
 split at h;·rename_i x H d;simp only[bA]at h;obtain⟨tm',e,rfl⟩:=h;unfold evalW at d;simp only[b]at d;exact⟨x,d,e⟩
 cases h
theorem step_map{o:Oper}{st a:St}{t:Tmp}(e:Je o.op=some t)(h:evalOp E pc tc nt dep true ops o st=some a) :
 a.hp=st.hp\/(∃bs,a.hp=keyed ⟨dep,o.dst.getD 0,st.hp.gen dep (o.dst.getD 0),0⟩ 0 bs st.hp) \/∃q d b,iC (dc st.tm t)=some q/\kA st.hp.get q=some d/\a.hp=st.hp.put q (some (nJ b)):=by
 have c:AH E o=false:=by unfold AH;rw[Rt e,vZ]
 unfold evalOp at h;simp only[vK c,pT c]at h;split at h;·cases h
 ·simp only[bA]at h;obtain⟨tm',f,rfl⟩:=h;exact .inl rfl
 split at h;·rename_i x bs j;simp only[bA]at h;obtain⟨tm',f,rfl⟩:=h;exact .inr (.inl ⟨bs,rfl⟩)
 split at h;·cases h
 split at h;·rename_i x H g;simp only[bA]at h;obtain⟨tm',f,rfl⟩:=h;exact .inr (.inr (Rs e g))
 cases h
theorem NU{o:Oper}{st f:St}(k:oh E o=true)(h:evalOp E pc tc nt dep true ops o st=some f):f.hp=st.hp:=by
 obtain⟨c,g,b,j,hm,m,n⟩:=IU k;have e:AH E o=false:=by simp[AH,V2,b,j]
 unfold evalOp at h;simp only[vK e,pT e]at h;split at h;·cases h
 ·simp only[bA]at h;obtain⟨tm',l,rfl⟩:=h;rfl
 split at h
 ·rename_i x bs d;exfalso;unfold ca at d;simp only[b,j]at d;split at d;·cases d
  simp only[vu,ar,jR,hm,if_true,xf]at d;cases d
 split at h;·cases h
 split at h
 ·rename_i x H a;simp only[bA]at h;obtain⟨tm',l,rfl⟩:=h;unfold evalW at a;simp only[b,j]at a;split at a;·cases a
  rw[m]at a;cases hw:l8 E pc tc st.hp ⟨dep,o.dst.getD 0,st.hp.gen dep (o.dst.getD 0),0⟩ (ar st.tm (.func g)) _ with
  | none=>rw[hw]at a;simp[pv]at a
  | some p=>
   obtain⟨y,H'⟩:=p;rw[hw]at a;unfold pv at a;simp only at a;split at a;·cases a;rfl
   cases a
 cases h
theorem P4{o:Oper}{st a:St}{t:Tmp}(f:BR o.op=some t)(h:evalOp E pc tc nt dep true ops o st=some a) :
 a.hp=st.hp\/(∃bs,a.hp=keyed ⟨dep,o.dst.getD 0,st.hp.gen dep (o.dst.getD 0),0⟩ 0 bs st.hp)\/(∃t1 t2 y z x,iC y=iC (dc st.tm t)/\iH E.P st.hp t1 t2 y z=some (x,a.hp)) \/∃q b g,iC (dc st.tm t)=some q/\st.hp.get q=some b/\a.hp=(⟨q.d,q.t,st.hp.gen q.d q.t,0⟩,some g) :: st.hp.put q none:=by
 unfold evalOp at h;split at h;·cases h
 ·simp only[bA]at h;obtain⟨tm',j,rfl⟩:=h;exact .inl rfl
 split at h;·rename_i x bs u;simp only[bA]at h;obtain⟨tm',j,rfl⟩:=h;exact .inr (.inl ⟨bs,rfl⟩)
 split at h;·cases h
 split at h
 ·rename_i x H c;simp only[bA]at h;obtain⟨tm',j,rfl⟩:=h;cases k:AH E o with
  | false=>rw[pT k]at c;obtain⟨t1,t2,y,z,n,s⟩:=Sv f c;exact .inr (.inr (.inl ⟨t1,t2,y,z,x,n,s⟩))
  | true=>
   unfold pU at c;rw[k]at c;simp only[yv,iQn]at c;rcases Pg f c with ⟨b,e⟩ | ⟨q,b,g,l,m,p⟩
   ·exact .inr (.inl ⟨[b],e⟩)
   exact .inr (.inr (.inr ⟨q,b,g,l,m,p⟩))
 cases h
theorem Ex{H:ab}{d t:Nat}{bs:List aP}{q:Ref}(h:(keyed ⟨d,t,H.gen d t,0⟩ 0 bs H).get q≠H.get q):Made H (keyed ⟨d,t,H.gen d t,0⟩ 0 bs H) q:=by
 rw[ab.lA]at h;unfold pX at h;split at h
 ·rename_i g;obtain⟨c,f,b,a⟩:=g;refine⟨?_,?_⟩;·rw[c,f,b];exact aV _
  rw[ab.kG,if_pos ⟨c,f,by intro e;rw[e]at a;simp at a⟩,b];exact oU _
 exact absurd rfl h
include A in
theorem G7{i n:Nat}(a:i<=n)(g:n<=ops.size){t:Tmp}(f : ∀k,gT ops k=some t->k<i):dc (sts n).tm t=dc (sts i).tm t:=by
 induction n with| zero=>rw[Df.1 a]| succ n d=>
  rcases dT n i with h | h
  ·rw[show i=n+1 by omega]
  have b:=iG (show n<ops.size from g);obtain⟨x,c⟩:=ID (A n _ b);rw[sH c,if_neg,d h (by omega)];intro e;have:=f n (by simp[gT,b,e]);omega
variable(B:ops.toList.all (EX E (sts ops.size))=true)
include C A B
theorem DT{i:Nat}{o:Oper}(S:ops[i]?=some o):tF (sts i).hp (sts (i+1)).hp/\(cls E o<3 ->∀d t,(sts (i+1)).hp.gen d t=(sts i).hp.gen d t) /\
 (cls E o≠2 ->∀q,turns sts i q->makes sts i q\/cls E o=4 /\∃t,k5 E o=some t/\iC (dc (sts i).tm t)=some q):=by
 have h:=A i o S;have hle:=BP E o;have hcs:cls E o=0\/cls E o=1\/cls E o=2\/cls E o=3\/cls E o=4:=by omega
 have same:(sts (i+1)).hp=(sts i).hp->tF (sts i).hp (sts (i+1)).hp/\(cls E o<3 ->∀d t,(sts (i+1)).hp.gen d t=(sts i).hp.gen d t) /\
  (cls E o≠2 ->∀q,turns sts i q->makes sts i q\/cls E o=4 /\∃t,k5 E o=some t/\iC (dc (sts i).tm t)=some q):=by
  intro e;refine⟨by rw[e];exact tF.refl _,λ_ d t=>by rw[e],λ_ q g=>?_⟩;unfold turns at g;rw[e]at g;exact absurd rfl g
 rcases hcs with c | c | c | c | c
 ·exact same (xU (.inl c) h)
 ·exact same (xU (.inr c) h)
 ·obtain⟨ty,t,x,hop,hs⟩:=No c;cases L:wanted ops (sts i).tm o with
  | none=>unfold evalOp at h;rw[L]at h;cases h
  | some b=>
   cases b with| false=>unfold evalOp at h;rw[L]at h;simp only[bA]at h;obtain⟨tm',_,e⟩:=h;exact same (by rw[<-e])| true=>obtain⟨y,hW,_⟩:=DX hop h L;exact⟨Ie hW,λ_ d t=>KA hW d t,λhn=>absurd c hn⟩
 ·have U:=(yl c).2;rcases mT h with ⟨_,tm',m,he⟩ | ⟨_,x,bs,g,tm',m,he⟩ | s
  ·exact same (by rw[he])
  ·have e:(sts (i+1)).hp=keyed ⟨dep,o.dst.getD 0,(sts i).hp.gen dep (o.dst.getD 0),0⟩ 0 bs (sts i).hp:=(by rw[he]);refine⟨by rw[e];exact tF.keyed _ _ _ _,λl=>by omega,λ_ q g => .inl ?_⟩;unfold turns at g;unfold makes;rw[e]at g ⊢;exact Ex g
  rw[U]at s;cases s
 cases R:oh E o with| true=>exact same (NU R h)| false=>
 obtain⟨t,m,W⟩:=C.stay i o S (by omega) (by omega) R;have Y : ∀bs,(sts (i+1)).hp=keyed ⟨dep,o.dst.getD 0,(sts i).hp.gen dep (o.dst.getD 0),0⟩ 0 bs (sts i).hp->tF (sts i).hp (sts (i+1)).hp/\(cls E o<3 ->∀d t,(sts (i+1)).hp.gen d t=(sts i).hp.gen d t) /\
  (cls E o≠2 ->∀q,turns sts i q->makes sts i q\/cls E o=4 /\∃t,k5 E o=some t/\iC (dc (sts i).tm t)=some q):=by
  intro bs e;refine⟨by rw[e];exact tF.keyed _ _ _ _,λl=>by omega,λ_ q g => .inl ?_⟩;unfold turns at g;unfold makes;rw[e]at g ⊢;exact Ex g
 cases p:xK o.op with
 | false=>
  have k:DQ o.op=some t:=by rw[JW c,p]at m;simpa using m
  cases u:Je o.op with
  | some t'=>
   have e':t'=t:=by unfold DQ at k;rw[u]at k;simpa using k
   subst e';rcases step_map u h with e | ⟨bs,e⟩ | ⟨q,ents,Z,g,hm,e⟩
   ·exact same e
   ·exact Y bs e
   refine⟨by rw[e];exact tF.map hm,λl=>by omega,λ_ q' a => .inr ⟨c,t',m,?_⟩⟩;unfold turns at a;rw[e,ab.get_put]at a;split at a;·rename_i e2;subst e2;exact g
   exact absurd rfl a
  | none=>
  have G:BR o.op=some t:=by unfold DQ at k;rw[u]at k;exact k
  rcases P4 G h with e | ⟨bs,e⟩ | ⟨t1,t2,y,z,x,hy,T⟩ | ⟨r,b,b',V,O,e⟩
  ·exact same e
  ·exact Y bs e
  rotate_left
  ·refine⟨by rw[e];exact(AR O).1,λl=>by omega,λ_ q a=>?_⟩;unfold turns at a;unfold makes;rw[e]at a ⊢;rcases(AR O).2 q a with j | j
   ·exact .inl j
   subst j;exact .inr ⟨c,t,m,V⟩
  obtain⟨hm,r,V,g⟩:=GV T;refine⟨hm,λl=>by omega,λ_ q a=>?_⟩;rcases g q a with j | j
  ·exact .inl j
  subst j;exact .inr ⟨c,t,m,by rw[<-hy];exact V⟩
 | true=>
  have Q:V7 o.op=some t:=by rw[JW c,p]at m;simpa using m
  rcases Tm Q h with e | ⟨bs,e⟩ | ⟨t1,n,i',x,J,T⟩
  ·exact same e
  ·exact Y bs e
  obtain⟨hm,g⟩:=Bk T;refine⟨hm,λl=>by omega,λ_ q a=>?_⟩;rcases g q a with j | j
  ·exact .inl j
  refine .inr ⟨c,t,m,?_⟩;have X:(E.fI o&&xK o.op)=true:=by
   have L:fQ E o=true:=by
    unfold cls at c;split at c
    ·split at c;·cases c
     split at c;·cases c
     split at c;·assumption
     cases c
    cases c
   unfold fQ at L;rcases Dp.1 L with N | N
   ·exfalso;replace N:=(re.1 N).2;unfold xK at p;split at p;·rename_i K;rw[K]at N;cases N
    cases p
   have hdo:V2 o.op=true:=by
    unfold xK at p;split at p;·rename_i K;rw[K];rfl
    cases p
   unfold AH at J;rw[hdo,yv]at J;rwa [J,Gv]at N
  have hi:i<ops.size:=(gv.1 S).1;have f:=eC.1 B o (dk (i:=i) (by simpa using S));unfold EX at f;rw[X,Q]at f;simp only[tN,nk]at f;rw[G7 A (gK hi) (aV ops.size) W]at f;simp only[sW,Di,bW,kY,Dm,mz]at j;revert f j;generalize dc (sts i).tm t=v;intro f j;cases v with
  | bO r off len cap=>simp only[ad,depth,l7]at j;rw[j];rfl
  | v y=>simp[ad,depth]at j
  | _=>cases f
theorem pw{i n:Nat}(a:i<=n)(c:n<=ops.size)(d t:Nat):(sts i).hp.gen d t<=(sts n).hp.gen d t:=by
 induction n with| zero=>rw[Df.1 a];exact aV _| succ n b=>
  rcases dT n i with h | h
  ·rw[show i=n+1 by omega];exact aV _
  exact sU (b h (by omega)) ((DT C A B (iG (show n<ops.size from c))).1.gen d t)
theorem KH{M:Mem}{ι:Map}{w:World}(D:fk M ι (sts 0).hp.get w)(F:p8 ι (sts 0).hp){n:Nat}(j:n<=ops.size) : ∀q,(sts n).hp.get q≠none->q.g<(sts n).hp.gen q.d q.t:=by
 induction n with
 | zero=>
  intro q h;cases b:(sts 0).hp.get q with
  | none=>exact absurd b h
  | some k=>obtain⟨l,e,_⟩:=D.live q k b;exact F q l e
 | succ n f=>
  intro q h;have c:=(DT C A B (iG (show n<ops.size from j))).1;rcases c.born q h with a | a
  ·exact zK (f (by omega) q a) (c.gen _ _)
  exact a.2
theorem ZO{M:Mem}{ι:Map}{w:World}(D:fk M ι (sts 0).hp.get w)(F:p8 ι (sts 0).hp){i:Nat}{r:Ref}{b:aP}(c:(sts i).hp.get r=some b){n:Nat}(g:i<=n)(m:n<=ops.size) : ∀e,(sts n).hp.get r=some e->e.arr=b.arr:=by
 induction n with| zero=>intro e h;rw[Df.1 g]at c;rw[c]at h;cases h;rfl| succ n q=>
  intro e h;rcases dT n i with p | a
  ·rw[show i=n+1 by omega]at c;rw[c]at h;cases h;rfl
  have l:=(DT C A B (iG (show n<ops.size from m))).1;rcases l.born r (by rw[h];simp)with f | f
  ·cases j:(sts n).hp.get r with
   | none=>exact absurd j f
   | some k=>rw[l.arr r k e j (KH C A B D F (by omega) r f) h];exact q a (by omega) k j
  have u:=KH C A B D F (show i<=ops.size by omega) r (by rw[c];simp);have s:=pw C A B a (by omega) r.d r.t;have:=f.1;omega
theorem BG{j b:Nat}{q:Ref}(f:j<ops.size)(c:b<ops.size)(h:makes sts j q)(e:makes sts b q):j=b:=by
 rcases Be j b with a | rfl | a
 ·have:=pw C A B (show j+1<=b from a) (gK c) q.d q.t;have:=h.2;have:=e.1;omega
 ·rfl
 have:=pw C A B (show b+1<=j from a) (gK f) q.d q.t;have:=e.2;have:=h.1;omega
theorem xz{j:Nat}{q:Ref}{o:Oper}(c:ops[j]?=some o)(h:makes sts j q):3<=cls E o:=by
 rcases dT (cls E o) 3 with b | a
 ·have:=(DT C A B c).2.1 b q.d q.t;have e:=h.1;have f:=h.2;omega
 exact a
variable{M:Mem}{ι:Map}{w:World}
variable(D:fk M ι (sts 0).hp.get w)(F:p8 ι (sts 0).hp)(G:(o9 E ops).all (Ch (sts ops.size).tm)=true)(I:ops.toList.all (uh (sts ops.size))=true)
include D F I
theorem Mu{i:Nat}{o:Oper}(h:ops[i]?=some o)(T:cls E o=2)(N:wanted ops (sts i).tm o=some true) :
 ∃ty t xo r j k b x n es',o.op = .store ty (.tmp t) xo/\k5 E o=some t/\dc (sts i).tm t = .ptr r j k/\(sts i).hp.get r=some b/\b.arr=false/\b.fI=false/\ar (sts i).tm xo=some x/\av E.P ty=some n /\
  x.cells.length=n/\x.cells.all AV.one=true/\eA b.es j k x.cells=some es'/\(sts (i+1)).hp=(sts i).hp.put r (some { b with es:=es'})/\cG nt (sts i).tm o.dst AV.undef=some (sts (i+1)).tm:=by
 have hi:i<ops.size:=(gv.1 h).1;obtain⟨ty,t,xo,f,m⟩:=No T;obtain⟨y,c,K⟩:=DX f (A i o h) N;obtain⟨t',g,q⟩:=C.stay i o h (by omega) (by omega) (pO m);rw[m]at g;cases g;have e:=G7 A (gK hi) (aV ops.size) q;have a:=eC.1 I o (dk (i:=i) (by simpa using h));unfold uh at a;rw[f]at a;simp only[e]at a;have S:=c;unfold iu at c;split at c
 ·rename_i r' j k V n l Q O;simp only[du]at l;rw[l]at a;simp only at a;split at c
  ·rename_i b J;obtain⟨⟨s,z,u⟩,c⟩:=dH.1 c;have d:b.arr=false:=by
    split at a;·rename_i L p;rw[<-ZO C A B D F J (gK hi) (aV _) L p];simpa using a
    cases a
   rw[if_neg (by simp[d])]at c;simp only[bA]at c;obtain⟨es',v,c⟩:=c;injection c with R U
   subst R;exact⟨ty,t,xo,r',j,k,b,V,n,es',f,m,l,J,d,u,Q,O,s,z,v,U.symm,K⟩
  cases c
 cases c
theorem DS{j:Nat}{o:Oper}(a:ops[j]?=some o){q:Ref}(h:turns sts j q):makes sts j q\/(cls E o=2\/cls E o=4) /\∃t,k5 E o=some t/\iC (dc (sts j).tm t)=some q:=by
 by_cases d:cls E o=2
 ·cases hw:wanted ops (sts j).tm o with| none=>have:=A j o a;unfold evalOp at this;rw[hw]at this;cases this| some b=>
   cases b with
   | false=>have:=A j o a;unfold evalOp at this;rw[hw]at this;simp only[bA]at this;obtain⟨tm',_,e⟩:=this;unfold turns at h;rw[<-e]at h;exact absurd rfl h
   | true=>
    obtain⟨ty,t,xo,r,p,s,b,x,n,es',l,f,g,m,_,_,_,_,_,_,_,he,_⟩:=Mu C A B D F I a d hw;refine .inr ⟨.inl d,t,f,?_⟩;unfold turns at h;rw[he,ab.get_put]at h;split at h;·rename_i e;subst e;rw[g];rfl
    exact absurd rfl h
 rcases(DT C A B a).2.2 d q h with c | ⟨c,k⟩
 ·exact .inl c
 exact .inr ⟨.inr c,k⟩
omit A D F I C B in
theorem Ra{L:Nat->Bool}(d:Closed ops L){i:Nat}{o:Oper}(l:ops[i]?=some o)(hi:L i=false)(g : ∀e∈eg o,L e=true){j:Nat}{f:Oper}(b:ops[j]?=some f)
 (h:j<i->((cW ops.toList []).getD i 0).testBit j=true) (k:i<j->((cW ops.toList []).getD j 0).testBit i=true):(L j=true↔j<i):=by
 constructor
 ·intro c;rcases Be j i with a | rfl | a
  ·exact a
  ·rw[hi]at c;cases c
  have:=sk d j f b (λe m=>d j f c b e m) i (k a);rw[hi]at this;cases this
 intro a;exact sk d i o l g j (h a)
omit D F I B in
include G in
theorem Q9{L:Nat->Bool}(V:Closed ops L){i:Nat}{o:Oper}(s:ops[i]?=some o)(hi:L i=false)(K : ∀e∈eg o,L e=true)(c:cls E o=1\/cls E o=2){t:Tmp}(v:k5 E o=some t){q:Ref}(x:iC (dc (sts i).tm t)=some q)
 {j:Nat} {l:Oper} (k:ops[j]?=some l) (g:cls E l=2\/cls E l=4) {t':Tmp} (m:k5 E l=some t') (p:iC (dc (sts j).tm t')=some q):(L j=true↔j<i):=by
 have O:i<ops.size:=(gv.1 s).1;have N:j<ops.size:=(gv.1 k).1;obtain⟨t1,Q,s1⟩:=C.stay i o s (by omega) (by omega) (pO v);obtain⟨t2,R,s2⟩:=C.stay j l k (by omega) (by omega) (pO m);rw[v]at Q;cases Q;rw[m]at R;cases R;have S:=G7 A (gK O) (aV ops.size) s1;have U:=G7 A (gK N) (aV ops.size) s2;rw[<-S]at x;rw[<-U]at p;have T : ∀a b,k5 E a=some t->k5 E b=some t' ->¬(settled E ops a b=true):=by
  intro a b J y d;unfold settled at d;rw[J,y]at d;simp only[lI,GK]at d;have f:=eC.1 G;rcases d with d | d
  ·have:=f _ d;unfold Ch at this;simp only[x,p]at this;simp at this
  have:=f _ d;unfold Ch at this;simp only[x,p]at this;simp at this
 have z : ∀a b,k5 E a=some t'->k5 E b=some t ->¬(settled E ops a b=true):=by
  intro a b J y d;unfold settled at d;rw[J,y]at d;simp only[lI,GK]at d;have f:=eC.1 G;rcases d with d | d
  ·have:=f _ d;unfold Ch at this;simp only[x,p]at this;simp at this
  have:=f _ d;unfold Ch at this;simp only[x,p]at this;simp at this
 refine Ra V s hi K k (λn=>?_) (λn=>?_)
 ·by_cases u:Ao (cls E o) (cls E l)=true
  ·rcases C.meet i j o l s k n u (pO v) (pO m)with h | h
   ·exact h
   exact absurd h (T o l v m)
  refine C.must i j o l s k n ?_;unfold oB blind;rcases c with c | c<;>rcases g with g | g<;>rw[c,g]at u ⊢ <;> first | rfl | exact absurd rfl u
 by_cases u:Ao (cls E l) (cls E o)=true
 ·rcases C.meet j i l o k s n u (pO m) (pO v)with h | h
  ·exact h
  exact absurd h (z l o m v)
 refine C.must j i l o k s n ?_;unfold oB blind;rcases c with c | c<;>rcases g with g | g<;>rw[c,g]at u ⊢ <;> first | rfl | exact absurd rfl u
omit A D F I B in
theorem qz{L:Nat->Bool}(u:Closed ops L){i:Nat}{o:Oper}(l:ops[i]?=some o)(hi:L i=false)(p : ∀e∈eg o,L e=true)(s:3<=cls E o)
 {j:Nat} {d:Oper} (f:ops[j]?=some d) (m:blind E o=false\/cls E d≠2) (k:ng E o d=false/\ng E d o=false) (c:cls E d=2\/cls E d=4\/cls E o=4/\3<=cls E d):(L j=true↔j<i):=by
 have v:=BP E o;have x:=BP E d;have q:oB E o d=true/\oB E d o=true:=by
  unfold oB;rw[k.1,k.2];have a:cls E o=3\/cls E o=4:=by omega
  rcases c with c | c | ⟨n,c⟩
  ·have t:=m.resolve_right (λh=>h c);rcases a with a | a<;>rw[a,c,t]<;>exact⟨rfl,rfl⟩
  ·rcases a with a | a<;>rw[a,c]<;>simp
  have b:cls E d=3\/cls E d=4:=(by omega);rcases b with b | b<;>rw[n,b]<;>simp
 exact Ra u l hi p f (λg=>C.must i j o d l f g q.1) (λg=>C.must j i d o f l g q.2)
end
end
section
section
variable{E:Env}{pc:FuncId->List AV->Option AV}{tc:qJ->List AV->ab->bU}{nt dep:Nat}{ops:Array Oper}{sts:Nat->St}
variable(C:XX E ops)(A : ∀i o,ops[i]?=some o->evalOp E pc tc nt dep true ops o (sts i)=some (sts (i+1)))
variable{M:Mem}{ι:Map}{w:World}{ds:List Deferred}
structure SG (E:Env) (ops:Array Oper) (sts:Nat->St) (M:Mem) (ι:Map) (w:World) (L:Nat->Bool) (M1:Mem) (ι1:Map) (g1:cb) (c:Nat) (w1:World):Prop where
 sim:fk M1 ι1 g1 w1
 fwd:qX M ι (sts 0).hp.get w M1 ι1 g1 w1
 le:c<=ops.size
 cut : ∀j o,j<c->ops[j]?=some o->3<=cls E o->L j=true
 hand : ∀q,ι1 q≠none->q.g<(sts c).hp.gen q.d q.t \/∃j,j<ops.size/\L j=true/\c<=j/\makes sts j q
 get : ∀q,∃n,n<=ops.size/\g1 q=(sts n).hp.get q /\∀j,j<ops.size->turns sts j q->(L j=true↔j<n)
structure SH (E:Env) (nt:Nat) (ops:Array Oper) (sts:Nat->St) (M:Mem) (ι:Map) (w:World) (ds:List Deferred) (L:Nat->Bool) (a1:Act) (w1:World):Prop where
 closed:Closed ops L
 defers:a1.defers=ds
 at_ : ∃M1 ι1 tm1 g1 c,TS ops sts L tm1/\TR M1 ι1 tm1 a1/\a1.tmps.size=nt/\SG E ops sts M ι w L M1 ι1 g1 c w1
theorem yE{a b:Nat}{q:Ref}(h:a<=b)(d : ∀j,a<=j->j<b ->¬turns sts j q):(sts b).hp.get q=(sts a).hp.get q:=by
 induction b with| zero=>rw[Df.1 h]| succ b f=>
  rcases dT b a with g | c
  ·rw[show a=b+1 by omega]
  have:=d b c (oU b);unfold turns at this;rw[q9.1 this];exact f c λj e k=>d j e (by omega)
theorem SG.J6{L:Nat->Bool}{t:Mem}{f:Map}{m:cb}{c:Nat}{s:World}(h:SG E ops sts M ι w L t f m c s){q:Ref}{i:Nat}(hi:i<=ops.size)(l : ∀j,j<ops.size->turns sts j q->(L j=true↔j<i)):m q=(sts i).hp.get q:=by
 obtain⟨n,u,e,k⟩:=h.get q;rw[e];rcases Nat.le_total n i with hle | hle
 ·exact(yE hle λj p g d=>by
   have a:=k j (by omega) d;have b:=l j (by omega) d;have:=a.1 (b.2 g);omega).symm
 exact yE hle λj p g d=>by
  have a:=k j (by omega) d;have b:=l j (by omega) d;have:=b.1 (a.2 g);omega
variable(B:ops.toList.all (EX E (sts ops.size))=true)
include C A B
theorem Ar{L:Nat->Bool}{z:Mem}{b:Map}{v:cb}{c:Nat}{u:World}(D:fk M ι (sts 0).hp.get w)(F:p8 ι (sts 0).hp)(h:SG E ops sts M ι w L z b v c u){i:Nat}(s:i<ops.size)(hi:L i=false){q:Ref}
 (y:(sts i).hp.get q≠none) (J:b q≠none) {j:Nat} (a:j<ops.size) (k:makes sts j q):(L j=true↔j<i):=by
 constructor
 ·intro e;rcases dT j i with f | l
  ·exact f
  have x:=KH C A B D F (gK s) q y;have g:=pw C A B l (gK a) q.d q.t;have:=k.1;omega
 intro f;rcases h.hand q J with x | ⟨K,m,e,_,p⟩
 ·have n:j<c:=by
   rcases dT j c with g | g
   ·exact g
   have:=pw C A B g (gK a) q.d q.t;have:=k.1;omega
  exact h.cut j _ n (iG a) (xz C A B (iG a) k)
 rw[BG C A B a m k p];exact e
variable(D:fk M ι (sts 0).hp.get w)(F:p8 ι (sts 0).hp)(G:(o9 E ops).all (Ch (sts ops.size).tm)=true)(I:ops.toList.all (uh (sts ops.size))=true)
include D F G I
theorem FK{L:Nat->Bool}(y:Closed ops L){J:Mem}{b:Map}{u:cb}{c:Nat}{v:World}(h:SG E ops sts M ι w L J b u c v){i:Nat}{o:Oper}(p:ops[i]?=some o)(hi:L i=false)(l : ∀e∈eg o,L e=true)
 (g:cls E o=1\/cls E o=2) {t:Tmp} (x:k5 E o=some t) {q:Ref} (z:iC (dc (sts i).tm t)=some q) (a:(sts i).hp.get q≠none) (N:b q≠none) :
 u q=(sts i).hp.get q /\∀j,j<ops.size->turns sts j q->(L j=true↔j<i):=by
 have f:i<ops.size:=(gv.1 p).1;have key : ∀j,j<ops.size->turns sts j q->(L j=true↔j<i):=by
  intro j s K;have d:=iG s;rcases DS C A B D F I d K with hm | ⟨m,t',n,k⟩
  ·exact Ar C A B D F h f hi a N s hm
  exact Q9 C A G y p hi l g x z d m n k
 exact⟨h.J6 (gK f) key,key⟩
theorem ON(hpc : ∀f xs y,pc f xs=some y->iz E.P f xs y)(htc : ∀f xs H y H',tc f xs H=some (y,H')->kU E.P f xs H y H'){ro:Option Nat}{Q:Exit->Act->World->Prop}
 {L L':Nat->Bool} {i:Nat} {o:Oper} (ho:ops[i]?=some o) (hi:L i=false) (hed : ∀e∈eg o,L e=true)
 (O : ∀j,L' j=true↔(L j=true\/j=i)) {a1:Act} {w1:World} (hI:SH E nt ops sts M ι w ds L a1 w1) {K:Act->World->Prop} (hK : ∀a' w',SH E nt ops sts M ι w ds L' a' w'->K a' w') :
 if Region.wanted o (yielded ops a1.tmps) then o.wpIn (FW ro) 0 E.P a1 w1 K Q else K (a1.put o.dst undef) w1:=by
 obtain⟨hc,hds,M1,X,tm1,g1,c,hTS,W,hnt,S⟩:=hI;have N:i<ops.size:=(gv.1 ho).1;have hc':Closed ops L':=Closed.next hc ho hed O;have hlook : ∀t∈o.looksAt ops,dc tm1 t=dc (sts i).tm t:=λt ht=>Ea C.toRegB A hc ho hi hed hTS ht;have hag:=xJ hlook;have hwd:=uX hlook;have step:=A i o ho;have hle4:=BP E o;have fin : ∀(u:Value)(x:AV)(R:List AV)(w':World)(M':Mem)(ι':Map),(sts (i+1)).hp=(sts i).hp->cG nt (sts i).tm o.dst x=some (sts (i+1)).tm->cG nt tm1 o.dst x=some R ->
  TR M' ι' R (a1.put o.dst u)->(a1.put o.dst u).tmps.size=nt->fk M' ι' g1 w'->qX M1 X g1 w1 M' ι' g1 w'->(∀q,ι' q≠none->X q≠none)->SH E nt ops sts M ι w ds L' (a1.put o.dst u) w':=by
  intro u x R w' M' ι' hsame hx Y htr hn hS' hF' hι;refine⟨hc',(put_defers _ _ _).trans hds,M',ι',R,g1,c,rj C.toRegB ho O hi hTS hx Y,htr,hn,hS',S.fwd.trans hF',S.le,λj oj hj s hcj=>(O j).2 (.inl (S.cut j oj hj s hcj)),λq hq=>?_,λq=>?_⟩
  ·rcases S.hand q (hι q hq)with h | ⟨j,h1,h2,h3,h4⟩
   ·exact .inl h
   exact .inr ⟨j,h1,(O j).2 (.inl h2),h3,h4⟩
  obtain⟨n,h1,h2,h3⟩:=S.get q;refine⟨n,h1,h2,λj hj hT=>?_⟩;have J:j≠i:=by intro e;subst e;exact hT (by rw[hsame])
  rw[<-h3 j hj hT,O j];simp[J]
 have hkeyfree : ∀k:Nat,X { (⟨dep+1,0,(sts ops.size).hp.gen (dep+1) 0,0⟩:Ref)with k:=k}=none:=by
  intro k;cases hq:X { (⟨dep+1,0,(sts ops.size).hp.gen (dep+1) 0,0⟩:Ref)with k:=k} with
  | none=>rfl
  | some l=>
   exfalso;rcases S.hand _ (by rw[hq];simp)with h | ⟨j,h1,_,_,h4⟩
   ·have:=pw C A B S.le (aV _) (dep+1) 0;simp only at h;omega
   have:=pw C A B (show j+1<=ops.size from h1) (aV _) (dep+1) 0;have:=h4.2;simp only at this;omega
 have quiet : ∀ {x:AV} {tm':List AV},(sts (i+1)).hp=(sts i).hp->cG nt (sts i).tm o.dst x=some (sts (i+1)).tm ->
  ca E pc true g1 tm1 ⟨dep+1,0,(sts ops.size).hp.gen (dep+1) 0,0⟩ o=some (x,[])->o.wpIn (FW ro) 0 E.P a1 w1 K Q:=by
  intro x tm' hsame hx hq;obtain⟨R,Y⟩:=jP (tm1:=tm1) hx;refine uD (E:=E) (o:=o) S.sim W rfl hkeyfree hpc (λh=>by cases h) hq ro K Q λu w' ⟨M',ι',h1,h2,h3,h4⟩=>hK _ _ ?_;rw[lP]at h2 h3;obtain⟨h5,h6⟩:=(W.mono h3.mem h3.map).put hnt Y h1;refine fin u x R w' M' ι' hsame hx Y h5 h6 h2 h3 λq hq hn=>hq (h4 q hn (λk hk=>by simp at hk))
 have hno:wanted ops (sts i).tm o=some false->if Region.wanted o (yielded ops a1.tmps) then o.wpIn (FW ro) 0 E.P a1 w1 K Q else K (a1.put o.dst undef) w1:=by
  intro hw;have hw1:=hw;rw[<-hwd]at hw1;rw[iq W hw1];simp only[hU,iQf];unfold evalOp at step;rw[hw]at step;simp only[bA]at step;obtain⟨tm',ht,he⟩:=step;have hx:cG nt (sts i).tm o.dst AV.undef=some (sts (i+1)).tm:=by rw[<-he];exact ht
  obtain⟨R,Y⟩:=jP (tm1:=tm1) hx;obtain⟨h1,h2⟩:=W.put hnt Y (u:=undef) (.v rfl);exact hK _ _ (fin undef AV.undef R w1 M1 X (by rw[<-he]) hx Y h1 h2 S.sim qX.refl λ_ h=>h)
 have maker : ∀ {d:Nat} {x:AV} {bs:List aP},3<=cls E o->(sts (i+1)).hp=keyed ⟨dep,d,(sts i).hp.gen dep d,0⟩ 0 bs (sts i).hp->cG nt (sts i).tm o.dst x=some (sts (i+1)).tm ->
  ca E pc true g1 tm1 ⟨dep,d,(sts i).hp.gen dep d,0⟩ o=some (x,bs)->(∀k,X { (⟨dep,d,(sts i).hp.gen dep d,0⟩:Ref)with k:=k}=none)->o.wpIn (FW ro) 0 E.P a1 w1 K Q:=by
  intro d x bs Z hhp hx hq' hfree;obtain⟨R,Y⟩:=jP (tm1:=tm1) hx;refine uD (E:=E) (o:=o) S.sim W rfl hfree hpc (λh=>by cases h) hq' ro K Q λu w' ⟨M',ι',h1,h2,h3,h4⟩=>hK _ _ ?_;obtain⟨h5,h6⟩:=(W.mono h3.mem h3.map).put hnt Y h1;refine⟨hc',(put_defers _ _ _).trans hds,M',ι',R,pX g1 ⟨dep,d,(sts i).hp.gen dep d,0⟩ bs,c,rj C.toRegB ho O hi hTS hx Y,h5,h6,h2,S.fwd.trans h3,S.le,λj oj hj s hcj=>(O j).2 (.inl (S.cut j oj hj s hcj)),λq hq=>?_,λq=>?_⟩
  ·by_cases hq1:X q=none
   ·by_cases hk : ∃k,k<bs.length/\q = { (⟨dep,d,(sts i).hp.gen dep d,0⟩:Ref)with k:=k}
    ·obtain⟨k,hk,e⟩:=hk;refine .inr ⟨i,N,(O i).2 (.inr rfl),?_,?_⟩
     ·rcases dT i c with U | U
      ·have:=S.cut i o U ho (by omega);rw[hi]at this;cases this
      exact U
     subst e;refine⟨aV _,?_⟩;simp only;rw[hhp,ab.kG,if_pos ⟨rfl,rfl,by intro e;rw[e]at hk;simp at hk⟩];exact oU _
    exact absurd (h4 q hq1 λk hk' e=>hk ⟨k,hk',e⟩) hq
   rcases S.hand q hq1 with h | ⟨j,g1',g2,g3,g4⟩
   ·exact .inl h
   exact .inr ⟨j,g1',(O j).2 (.inl g2),g3,g4⟩
  by_cases hk:q.d=dep/\q.t=d/\q.g=(sts i).hp.gen dep d/\q.k<bs.length
  ·have hmk:makes sts i q:=(by obtain⟨k1,k2,k3,k4⟩:=hk;refine⟨by rw[k1,k2,k3];exact aV _,?_⟩;rw[hhp,ab.kG,if_pos ⟨k1,k2,by intro e;rw[e]at k4;simp at k4⟩,k3];exact oU _);refine⟨i+1,N,?_,λj hj hT=>?_⟩;·rw[hhp,ab.lA];unfold pX;rw[if_pos hk,if_pos hk]
   rw[O j];by_cases J:j=i;·subst J;simp
   have s:=iG hj;have hturn:turns sts i q:=(by obtain⟨k1,k2,k3,k4⟩:=hk;intro e;have h5:(sts i).hp.get q≠none:=(by rw[<-e,hhp,ab.lA];unfold pX;rw[if_pos ⟨k1,k2,k3,k4⟩,dh k4];simp);have:=KH C A B D F (gK N) q h5;rw[k1,k2,k3]at this;exact absurd this (wX _));have hnot : ¬j<i:=by
    intro hji';obtain⟨k1,k2,k3,k4⟩:=hk;have hlive : ∀m,m<=i->(sts m).hp.get q≠none->False:=by
     intro m hm V;have h6:=KH C A B D F (sU hm (gK N)) q V;have h7:=pw C A B hm (gK N) q.d q.t;rw[k1,k2]at h6 h7;rw[k3]at h6;omega
    by_cases h8:(sts j).hp.get q=none;·exact hlive (j+1) hji' (λh9=>hT (by rw[h8,h9]))
    exact hlive j (gK hji') h8
   have:(L j=true↔j<i):=by
    obtain⟨n',k1,k2,k3⟩:=S.get q;have h9:=k3 i N hturn;rw[hi]at h9;have h10:=k3 j hj hT;rw[h10];constructor
    ·intro h11;have : ¬i<n':=λh=>by simpa using h9.2 h
     omega
    intro h11;exact absurd h11 hnot
   rw[this];constructor
   ·rintro(h | h);·omega
    exact absurd h J
   intro h;left;omega
  obtain⟨n',k1,k2,k3⟩:=S.get q;refine⟨n',k1,?_,λj hj hT=>?_⟩;·unfold pX;rw[if_neg hk];exact k2
  have J:j≠i:=(by intro e;subst e;refine hT ?_;rw[hhp,ab.lA];unfold pX;rw[if_neg hk]);rw[<-k3 j hj hT,O j];simp[J]
 cases hwt:wanted ops (sts i).tm o with| none=>unfold evalOp at step;rw[hwt]at step;cases step| some b=>
 cases b with| false=>exact hno hwt| true=>
 have hw1:=hwt;rw[<-hwd]at hw1;have hcs:cls E o=0\/cls E o=1\/cls E o=2\/cls E o=3\/cls E o=4:=by omega
 rcases hcs with Z | Z | Z | Z | Z
 ·rw[iq W hw1];simp only[if_true];have hh:=EP Z;rcases mT step with ⟨hw,_,_,_⟩ | ⟨hw,x,bs,hq,tm',ht,he⟩ | hwk
  ·rw[hwt]at hw;cases hw
  ·obtain⟨hbs,hall⟩:=uu hh hq;subst hbs;exact quiet (tm':=tm') (xU (.inl Z) step) (by rw[he];exact ht) (by rw[qE hag];exact hall _ _)
  rw[fL hwk]at hh;cases hh
 ·rw[iq W hw1];simp only[if_true];obtain⟨t,T,hst,hwk⟩:=HF Z;rcases mT step with ⟨hw,_,_,_⟩ | ⟨hw,x,bs,hq,tm',ht,he⟩ | hwk'
  ·rw[hwt]at hw;cases hw
  ·obtain⟨hbs,hall⟩:=look_nil T hq;subst hbs;refine quiet (tm':=tm') (xU (.inr Z) step) (by rw[he];exact ht) ?_;rw[qE hag];refine hall g1 _ λq hrq V=>?_;refine(FK C A B D F G I hc S ho hi hed (.inl Z) hst hrq V ?_).1;have ht1:dc tm1 t=dc (sts i).tm t:=by
    refine hlook t ?_;unfold Oper.looksAt;refine B0 _ (List.mem_filterMap.2 ⟨.tmp t,?_,rfl⟩);unfold yM at T;split at T;·rename_i hop;cases T;rw[hop];simp[Op.operands]
    ·rename_i hop;cases T;rw[hop];simp[Op.operands]
    ·rename_i hop;cases T;rw[hop];simp[Op.operands]
    ·rename_i hop;split at T;·cases T
     cases T;rw[hop];simp[Op.operands]
    ·rename_i hop;cases T;rw[hop];simp[Op.operands]
    ·rename_i c hop;split at T
     ·split at T
      ·rename_i hargs;cases T;rw[hop];have:(Operand.tmp t)∈c.args:=by rw[<-Array.mem_toList_iff,hargs];simp
       simp only[Op.operands,Call.operands];simp[this]
      cases T
     cases T
    cases T
   have hv:=W.at_ t;rw[ht1]at hv;revert hrq hv;generalize dc (sts i).tm t=v;generalize a1.tmps.getD t undef=u;intro hrq hv;cases hv with
   | ptr hr hzl=>cases hrq;rw[hr];simp
   | bO hr=>cases hrq;rw[hr];simp
   | dsl hr=>cases hrq;rw[hr];simp
   | mp hr=>cases hrq;rw[hr];simp
   | ch hr=>cases hrq;rw[hr];simp
   | _=>cases hrq
  rw[hwk]at hwk';cases hwk'
 ·rw[iq W hw1];simp only[if_true];obtain⟨ty,t,xo,r,i',j',b,x,n,es',hop,hs,hta,hb,harr,hfr,hxo,hn,hxn,hx1,hes,he,hx⟩:=Mu C A B D F I ho Z hwt;have hmem : ∀y,y = .tmp t\/y=xo->ar tm1 y=ar (sts i).tm y:=(by intro y hy;refine hag y ?_;rw[hop];rcases hy with rfl | rfl<;>simp[Op.operands]);have hpv:=aG W (x := .tmp t) (y := .ptr r i' j') (by rw[hmem _ (.inl rfl)];simp only[ar,hta]);have hxv:=aG W (x:=xo) (y:=x) (by rw[hmem _ (.inr rfl)];exact hxo);have hhand:X r≠none:=(by revert hpv;generalize a1.eval (.tmp t)=u;intro hpv;cases hpv with | ptr hr hzl=>rw[hr];simp);obtain⟨hg,hord⟩:=FK C A B D F G I hc S ho hi hed (.inr Z) hs (q:=r) (by rw[hta];rfl) (by rw[hb];simp) hhand;rw[hb]at hg;obtain⟨w',hr,hS',hF'⟩:=IB (P:=E.P) S.sim hn hpv hxv hg hxn hx1 hfr harr hes;obtain⟨R,Y⟩:=jP (tm1:=tm1) hx;have hok:dF E.P o a1 w1 λu w2=>u=undef/\w2=w':=dF.CU (by simp[execOp,hop,hr]) ⟨rfl,rfl⟩;refine hok ro K Q λu w2 ⟨e1,e2⟩=>hK _ _ ?_;subst e1;subst e2;obtain⟨h5,h6⟩:=(W.mono hF'.mem hF'.map).put hnt Y (u:=undef) (.v rfl);refine⟨hc',(put_defers _ _ _).trans hds,M1,X,R,j3 g1 r { b with es:=es'},c,rj C.toRegB ho O hi hTS hx Y,h5,h6,hS',S.fwd.trans hF',S.le,λj oj hj s hcj=>(O j).2 (.inl (S.cut j oj hj s hcj)),λq hq=>?_,λq=>?_⟩
  ·rcases S.hand q hq with h | ⟨j,h1,h2,h3,h4⟩
   ·exact .inl h
   exact .inr ⟨j,h1,(O j).2 (.inl h2),h3,h4⟩
  by_cases hqr:q=r
  ·subst hqr;refine⟨i+1,N,?_,λj hj hT=>?_⟩;·rw[he,ab.get_put,if_pos rfl];unfold j3;rw[if_pos rfl]
   rw[O j];by_cases J:j=i;·subst J;simp
   rw[hord j hj hT];constructor
   ·rintro(h | h);·omega
    exact absurd h J
   intro h;left;omega
  obtain⟨n',h1,h2,h3⟩:=S.get q;refine⟨n',h1,?_,λj hj hT=>?_⟩;·unfold j3;rw[if_neg hqr];exact h2
  have J:j≠i:=(by intro e;subst e;refine hT ?_;rw[he,ab.get_put,if_neg hqr]);rw[<-h3 j hj hT,O j];simp[J]
 ·rw[iq W hw1];simp only[if_true];obtain⟨hh,hwk⟩:=yl Z;rcases mT step with ⟨hw,_,_,_⟩ | ⟨hw,x,bs,hq,tm',ht,he⟩ | hwk'
  ·rw[hwt]at hw;cases hw
  ·obtain⟨d,hd⟩:=fP.1 (C.made i o ho Z);rw[hd,dP]at hq he;have hx:cG nt (sts i).tm o.dst x=some (sts (i+1)).tm:=by rw[he];exact ht
   obtain⟨R,Y⟩:=jP (tm1:=tm1) hx;have hhp:(sts (i+1)).hp=keyed ⟨dep,d,(sts i).hp.gen dep d,0⟩ 0 bs (sts i).hp:=by rw[he]
   have hloc:blind E o=false->A0 X (sts i).hp.get g1:=by
    intro hbl q b hg V;rw[<-hg];refine S.J6 (gK N) λj hj hT=>?_;have s:=iG hj;rcases DS C A B D F I s hT with hm | ⟨hcj,_⟩
    ·exact Ar C A B D F S N hi (by rw[hg];simp) V hj hm
    exact qz C hc ho hi hed (by omega) s (.inl hbl) ⟨OS hbl,nf (by omega)⟩ (by omega)
   rw[<-qE hag]at hq;have hq':ca E pc true g1 tm1 ⟨dep,d,(sts i).hp.gen dep d,0⟩ o=some (x,bs):=by
    cases hbl:blind E o with| true=>exact Sj hbl hq| false=>exact BK S.sim (hloc hbl) W hq
   have hfree : ∀k,X { (⟨dep,d,(sts i).hp.gen dep d,0⟩:Ref)with k:=k}=none:=by
    intro k;cases hqk:X { (⟨dep,d,(sts i).hp.gen dep d,0⟩:Ref)with k:=k} with
    | none=>rfl
    | some l=>
     exfalso;rcases S.hand _ (by rw[hqk];simp)with h | ⟨j,h1,h2,h3,h4⟩
     ·simp only at h;rcases dT i c with U | U
      ·have:=S.cut i o U ho (by omega);rw[hi]at this;cases this
      have:=pw C A B U (gK N) dep d;omega
     have s:=iG h1;have h5:=h4.1;have h6:=h4.2;simp only at h5 h6;rcases Be j i with J | J | J
     ·have:=pw C A B (show j+1<=i from J) (gK N) dep d;omega
     ·subst J;rw[hi]at h2;cases h2
     have hcj:=xz C A B s h4;have hc4:cls E ops[j]=3\/cls E ops[j]=4:=by have:=BP E ops[j];omega
     rcases hc4 with hc3 | hc4
     ·obtain⟨dj,hdj⟩:=fP.1 (C.made j _ s hc3);have hstepj:=A j _ s;have V:d≠dj:=(by intro e;have:=C.distinct i j o ops[j] d ho s hd (by rw[hdj,e]);omega);rcases mT hstepj with ⟨_,_,_,he2⟩ | ⟨_,_,bs2,_,_,_,he2⟩ | hwk2
      ·rw[he2]at h6;dsimp only at h6;omega
      ·rw[he2]at h6;simp only[hdj,dP]at h6;rw[ab.kG,if_neg (by intro hcc;exact V hcc.2.1)]at h6;omega
      rw[(yl hc3).2]at hwk2;cases hwk2
     cases hha:ng E o ops[j] with
     | true=>
      have V:=LD (E:=E) (re.1 hha).1 hq;have hmk:makes sts i { (⟨dep,d,(sts i).hp.gen dep d,0⟩:Ref)with k:=k}:=⟨aV _,by
       simp only;rw[hhp,ab.kG,if_pos ⟨rfl,rfl,V⟩];exact oU _⟩
      have:=BG C A B h1 N h4 hmk;omega
     | false=>have:=(qz C hc ho hi hed (by omega) s (.inr (by omega)) ⟨hha,nf (by omega)⟩ (.inr (.inl hc4))).1 h2;omega
   exact maker (by omega) hhp hx hq' hfree
  rw[hwk]at hwk';cases hwk'
 have hb4:blind E o=false:=by unfold blind;rw[Z];rfl
 cases hat:((BR o.op).isSome&&o.dst.isSome && !AH E o) with
 | true=>
  rw[iq W hw1];simp only[if_true];obtain⟨hat0,hnd⟩:=re.1 hat;replace hnd:AH E o=false:=by simpa using hnd
  obtain⟨hat1,hat2⟩:=re.1 hat0;obtain⟨t,ht⟩:=fP.1 hat1;obtain⟨d,hd⟩:=fP.1 hat2;have hloc:A0 X (sts i).hp.get g1:=by
   intro q b hg V;rw[<-hg];refine S.J6 (gK N) λj hj hT=>?_;have s:=iG hj;rcases DS C A B D F I s hT with hm | ⟨hcj,_⟩
   ·exact Ar C A B D F S N hi (by rw[hg];simp) V hj hm
   exact qz C hc ho hi hed (by omega) s (.inl hb4) ⟨nf (by omega),nf (by omega)⟩ (by omega)
  rcases NV hnd ht hwt step with ⟨x,bs,tm',hq,hx,he⟩ | ⟨c',y,z,x,hop,hcal,hargs,hA,hy,hx⟩
  ·rw[hd,dP]at hq he;have hx2:cG nt (sts i).tm o.dst x=some (sts (i+1)).tm:=by rw[he];exact hx
   have hhp:(sts (i+1)).hp=keyed ⟨dep,d,(sts i).hp.gen dep d,0⟩ 0 bs (sts i).hp:=(by rw[he]);rw[<-qE hag]at hq;refine maker (by omega) hhp hx2 (BK S.sim hloc W hq) λk=>?_;cases hqk:X { (⟨dep,d,(sts i).hp.gen dep d,0⟩:Ref)with k:=k} with
   | none=>rfl
   | some l=>
    exfalso;rcases S.hand _ (by rw[hqk];simp)with h | ⟨j,h1,h2,h3,h4⟩
    ·simp only at h;rcases dT i c with U | U
     ·have:=S.cut i o U ho (by omega);rw[hi]at this;cases this
     have:=pw C A B U (gK N) dep d;omega
    have s:=iG h1;have h5:=h4.1;have h6:=h4.2;simp only at h5 h6;rcases Be j i with J | J | J
    ·have:=pw C A B (show j+1<=i from J) (gK N) dep d;omega
    ·subst J;rw[hi]at h2;cases h2
    have hcj:=xz C A B s h4;have hc4:cls E ops[j]=3\/cls E ops[j]=4:=by have:=BP E ops[j];omega
    rcases hc4 with hc3 | hc4
    ·obtain⟨dj,hdj⟩:=fP.1 (C.made j _ s hc3);have hstepj:=A j _ s;have V:d≠dj:=(by intro e;have:=C.distinct i j o ops[j] d ho s hd (by rw[hdj,e]);omega);rcases mT hstepj with ⟨_,_,_,he2⟩ | ⟨_,_,bs2,_,_,_,he2⟩ | hwk2
     ·rw[he2]at h6;dsimp only at h6;omega
     ·rw[he2]at h6;simp only[hdj,dP]at h6;rw[ab.kG,if_neg (by intro hcc;exact V hcc.2.1)]at h6;omega
     rw[(yl hc3).2]at hwk2;cases hwk2
    have:=(qz C hc ho hi hed (by omega) s (.inr (by omega)) ⟨nf (by omega),nf (by omega)⟩ (.inr (.inl hc4))).1 h2;omega
  have hmapM:c'.args.toList.mapM (ar tm1)=some [y,z]:=by
   rw[<-hargs];refine mapM_congr λa ha=>hag a ?_;rw[hop];have:a∈c'.args:=by simpa using ha
   simp[Op.operands,Call.operands,this]
  have hvs:=kI W hmapM;obtain⟨u,v,hu1⟩:=vH hvs.1.symm;rw[hu1]at hvs;have vy:=hvs.2 0 y u rfl rfl;have vz:=hvs.2 1 z v rfl rfl;have hnew0 : ∀r',iC y=some r'->(sts i).hp.get r'≠none->makes sts i ⟨r'.d,r'.t,(sts i).hp.gen r'.d r'.t,0⟩:=(by intro r' hr' V;obtain⟨r2,b2,z2,es2,f2,e1,e2,e3,e4⟩:=yy hA;rw[hr']at e1;cases e1;refine⟨aV _,?_⟩;simp only;rw[e4,HQ (by rw[e2];rfl),if_pos ⟨rfl,rfl⟩];exact oU _);have hrefs : ∀r',iC y=some r'->X r'≠none:=by
   intro r' hr';revert vy hr';generalize y=v;intro vy hr';cases vy with
   | ptr hr hzl=>cases hr';rw[hr];simp
   | bO hr=>cases hr';rw[hr];simp
   | dsl hr=>cases hr';rw[hr];simp
   | mp hr=>cases hr';rw[hr];simp
   | ch hr=>cases hr';rw[hr];simp
   | _=>cases hr'
  obtain⟨r',b,k',e1,e2,hqr,e3,u',w',ι',hr',hv',hS',hF',hι'⟩:=Ik (P:=E.P) (ty:=o.type) (H:=(sts i).hp) S.sim vy vz (λr' hr' V=>by
   cases hb:(sts i).hp.get r' with| none=>exact absurd hb V| some b=>exact hloc r' b hb (hrefs r' hr')) (λe p hp=>F1 hloc vz hp) (λr' hr' V=>by
   cases hqk:X ⟨r'.d,r'.t,(sts i).hp.gen r'.d r'.t,0⟩ with| none=>rfl| some l=>
    exfalso;rcases S.hand _ (by rw[hqk];simp)with h | ⟨j,h1,h2,h3,h4⟩
    ·simp only at h;rcases dT i c with U | U
     ·have:=S.cut i o U ho (by omega);rw[hi]at this;cases this
     have:=pw C A B U (gK N) r'.d r'.t;omega
    have:=BG C A B h1 N h4 (hnew0 r' hr' V);subst this;rw[hi]at h2;cases h2) hA
  have hmk:=hnew0 r' e1 (by rw[e2];simp);obtain⟨R,Y⟩:=jP (tm1:=tm1) hx;have hok:dF E.P o a1 w1 λu2 w2=>u2=u'/\w2=w':=(by refine dF.of_run ?_ ⟨rfl,rfl⟩;have hsame:c'.args.map a1.eval = #[u,v]:=(by apply GD.1;rw[Array.toList_map,hu1]);simp only[execOp,hop,resolve,hcal,invoke,iQe,iQg,iQc,hsame];show(do pure (Next.value (<-Builtin.append_ c'.argTypes o.type #[u,v])):Sem Next).run E.P w1=_;exact D6 hr');refine hok ro K Q λu2 w2 ⟨f1,f2⟩=>hK _ _ ?_;subst f1;subst f2;obtain⟨h5,h6⟩:=(W.mono hF'.mem hF'.map).put hnt Y hv';refine⟨hc',(put_defers _ _ _).trans hds,M1,ι',R,_,c,rj C.toRegB ho O hi hTS hx Y,h5,h6,hS',S.fwd.trans hF',S.le,λj oj hj s hcj=>(O j).2 (.inl (S.cut j oj hj s hcj)),λq hq=>?_,λq=>?_⟩
  ·by_cases hqq:q=⟨r'.d,r'.t,(sts i).hp.gen r'.d r'.t,0⟩
   ·refine .inr ⟨i,N,(O i).2 (.inr rfl),?_,by rw[hqq];exact hmk⟩;rcases dT i c with U | U
    ·have:=S.cut i o U ho (by omega);rw[hi]at this;cases this
    exact U
   by_cases hq1:X q=none;·exact absurd (hι' q hq1 hqq) hq
   rcases S.hand q hq1 with h | ⟨j,g1',g2,g3,g4⟩
   ·exact .inl h
   exact .inr ⟨j,g1',(O j).2 (.inl g2),g3,g4⟩
  have hat3:(sts (i+1)).hp.get q=j3 (pB (sts i).hp.get r') ⟨r'.d,r'.t,(sts i).hp.gen r'.d r'.t,0⟩ k' q:=(by rw[e3,get_append _ _ _ _ hqr]);by_cases hqq:q=⟨r'.d,r'.t,(sts i).hp.gen r'.d r'.t,0⟩
  ·refine⟨i+1,N,by rw[hat3];unfold j3;rw[if_pos hqq,if_pos hqq],λj hj hT=>?_⟩;rw[O j];by_cases J:j=i;·subst J;simp
   have hturn:turns sts i q:=by
    intro e;have h5:(sts i).hp.get q≠none:=by
     rw[<-e,hat3];unfold j3;rw[if_pos hqq];simp
    have:=KH C A B D F (gK N) q h5;rw[hqq]at this;exact absurd this (wX _)
   have hnot : ¬j<i:=by
    intro hji';have hlive : ∀m,m<=i->(sts m).hp.get q≠none->False:=by
     intro m hm V;have h6:=KH C A B D F (sU hm (gK N)) q V;have h7:=pw C A B hm (gK N) q.d q.t;rw[hqq]at h6 h7;simp only at h6 h7;omega
    by_cases h8:(sts j).hp.get q=none;·exact hlive (j+1) hji' (λh9=>hT (by rw[h8,h9]))
    exact hlive j (gK hji') h8
   have:(L j=true↔j<i):=by
    obtain⟨n',k1,k2,k3⟩:=S.get q;have h9:=k3 i N hturn;rw[hi]at h9;have h10:=k3 j hj hT;rw[h10];constructor
    ·intro h11;have : ¬i<n':=λh=>by simpa using h9.2 h
     omega
    intro h11;exact absurd h11 hnot
   rw[this];constructor
   ·rintro(h | h);·omega
    exact absurd h J
   intro h;left;omega
  by_cases hqr2:q=r'
  ·refine⟨i+1,N,by rw[hat3];unfold j3 pB;rw[if_neg hqq,if_neg hqq,if_pos hqr2,if_pos hqr2],λj hj hT=>?_⟩;rw[O j];by_cases J:j=i;·subst J;simp
   have s:=iG hj;have:(L j=true↔j<i):=by
    rcases DS C A B D F I s hT with hm | ⟨hcj,_⟩
    ·exact Ar C A B D F S N hi (by rw[hqr2,e2];simp) (by rw[hqr2];exact hrefs r' e1) hj hm
    exact qz C hc ho hi hed (by omega) s (.inl hb4) ⟨nf (by omega),nf (by omega)⟩ (by omega)
   rw[this];constructor
   ·rintro(h | h);·omega
    exact absurd h J
   intro h;left;omega
  obtain⟨n',k1,k2,k3⟩:=S.get q;refine⟨n',k1,?_,λj hj hT=>?_⟩;·unfold j3 pB;rw[if_neg hqq,if_neg hqr2];exact k2
  have J:j≠i:=(by intro e;subst e;refine hT ?_;rw[hat3];unfold j3 pB;rw[if_neg hqq,if_neg hqr2]);rw[<-k3 j hj hT,O j];simp[J]
 | false=>
 have hha : ∀oj,ng E o oj=false/\ng E oj o=false:=λoj=>⟨nf (by omega),OT hat⟩;have hall : ∀q j,j<ops.size->turns sts j q->(L j=true↔j<i):=by
  intro q j hj hT;have s:=iG hj;refine qz C hc ho hi hed (by omega) s (.inl hb4) (hha _) ?_;rcases DS C A B D F I s hT with hm | ⟨hcj,_⟩
  ·exact .inr (.inr ⟨Z,xz C A B s hm⟩)
  omega
 have hg:g1=(sts i).hp.get:=funext λq=>S.J6 (gK N) (hall q);have hD:p8 X (sts i).hp:=by
  intro q l hq;rcases S.hand q (by rw[hq];simp)with h | ⟨j,h1,h2,h3,h4⟩
  ·rcases dT i c with U | U
   ·have:=S.cut i o U ho (by omega);rw[hi]at this;cases this
   exact zK h (pw C A B U (gK N) _ _)
  have s:=iG h1;have J:=(qz C hc ho hi hed (by omega) s (.inl hb4) (hha _) (.inr (.inr ⟨Z,xz C A B s h4⟩))).1 h2;exact zK h4.2 (pw C A B (show j+1<=i from J) (gK N) _ _)
 have hO:vT M1 X ⟨tm1,(sts i).hp⟩ nt a1 w1:=⟨by rw[<-hg];exact S.sim,hD,W,hnt⟩;obtain⟨x,R,hx,Y,hev⟩:=Ge hlook step;refine BL (E:=E) (Q:=Q) hO hpc htc (λh=>by cases h) (.inl rfl) hev λa' w' ⟨⟨M',ι',hO',hF'⟩,hd'⟩=>hK a' w' ⟨hc',hd'.trans hds,M',ι',R,(sts (i+1)).hp.get,i+1,rj C.toRegB ho O hi hTS hx Y,hO'.tr,hO'.nt,hO'.sim,?_,N,?_,?_,?_⟩;·have:=S.fwd;rw[hg]at this;exact this.trans hF'
 ·intro j oj hj s hcj;by_cases J:j=i;·exact(O j).2 (.inr J)
  exact(O j).2 (.inl ((qz C hc ho hi hed (by omega) s (.inl hb4) (hha _) (.inr (.inr ⟨Z,hcj⟩))).2 (by omega)))
 ·intro q hq;cases hqq:ι' q with
  | none=>exact absurd hqq hq
  | some l=>exact .inl (hO'.dom q l hqq)
 intro q;refine⟨i+1,N,rfl,λj hj hT=>?_⟩;rw[O j];by_cases J:j=i;·subst J;simp
 rw[hall q j hj hT];constructor
 ·rintro(h | h);·omega
  exact absurd h J
 intro h;left;omega
omit D F G I in
theorem Jj{L:Nat->Bool}(d : ∀i,i<ops.size->L i=true){a s:Act}{K:World}(J:a.defers=ds)(S:SH E nt ops sts M ι w ds L s K):iP M ι (sts 0) a w nt (sts ops.size) s K:=by
 obtain⟨V,y,N,g,tm1,R,c,u,n,p,k⟩:=S;have z : ∀t,dc tm1 t=dc (sts ops.size).tm t:=by
  intro t;obtain⟨x,U⟩:=u t;obtain⟨Q,v⟩:=G4 C.toRegB A ops.size (aV _) t;by_cases e : ∃j,j<ops.size/\gT ops j=some t;·obtain⟨j,b,f⟩:=e;rw[x j b (d j b) f,Q j b (by simpa using b) f]
  rw[U λj b _ f=>e ⟨j,b,f⟩,v λj b _ f=>e ⟨j,b,f⟩]
 have m:TR N g (sts ops.size).tm s:=⟨λt=>by rw[<-z];exact n.at_ t⟩;have O:R=(sts ops.size).hp.get:=funext λq=>k.J6 (aV _) λj b _=>⟨λ_=>b,λ_=>d j b⟩;refine⟨⟨N,g,⟨by rw[<-O];exact k.sim,?_,m,p⟩,by rw[<-O];exact k.fwd⟩,y.trans J.symm⟩;intro q l T;rcases k.hand q (by rw[T];simp)with h | ⟨j,x,_,_,v⟩
 ·exact zK h (pw C A B k.le (aV _) _ _)
 exact zK v.2 (pw C A B (show j+1<=ops.size from x) (aV _) _ _)
theorem Uh(Y : ∀f s y,pc f s=some y->iz E.P f s y)(htc : ∀f s H y H',tc f s H=some (y,H')->kU E.P f s H y H'){ro:Option Nat}{a0:Act}(J:a0.defers=ds){Q:Exit->Act->World->Prop}
 (hQ : ∀N w',iP M ι (sts 0) a0 w nt (sts ops.size) N w'->Q .normal N w') : ∀(b:Nat)(a:Array Bool)(R:Act)(O:World),a.size=ops.size ->
 (List.range ops.size).countP (λi => !a.getD i false)<=b->SH E nt ops sts M ι w ds (λi=>a.getD i false) R O->wpAnyIn (FW ro) 0 E.P .any ops Q b a R O:=by
 have zw : ∀ {a:Array Bool},a.size=ops.size->Region.ready .any ops a=[] ->∀i,i<ops.size->a.getD i false=true:=by
  intro a g h i;induction i using Nat.strongRecOn with | ind i ih=>
  intro hi;cases v:a.getD i false with
  | true=>rfl
  | false=>
   exfalso;have k:=iG hi;have X:a.getD i true=false:=by
    have:i<a.size:=(by omega);simpa [Array.getD,this] using v
   have:i∈Region.ready .any ops a:=(by rw[iQw];refine⟨X,_,k,λe S hb=>?_⟩;have u:e.on∈eg ops[i]:=(by unfold eg;exact lX.2 ⟨e,Gz.2 ⟨by simpa using S,hb⟩,rfl⟩);have c:=C.edges i _ k _ u;exact ih e.on c (by omega));rw[h]at this;cases this
 intro b;induction b with
 | zero=>
  intro a R O g hf U;have l : ∀i,i<ops.size->a.getD i false=true:=by
   intro i hi;cases v:a.getD i false with
   | true=>rfl
   | false=>exfalso;have:0<(List.range ops.size).countP (λi => !a.getD i false):=List.countP_pos_iff.2 ⟨i,sE.2 hi,by rw[v];rfl⟩;omega
  refine⟨?_,hQ _ _ (Jj C A B l J U)⟩;refine PH.2 λi hi=>?_;rw[iQw]at hi;obtain⟨z,o,k,_⟩:=hi;have c:i<ops.size:=(gv.1 k).1;have T:=l i c;have:i<a.size:=by omega
  simp[Array.getD,this]at z T;rw[T]at z;cases z
 | succ b ih=>
  intro a R O g hf U;refine⟨λhr=>hQ _ _ (Jj C A B (zw g hr) J U),λi hi=>?_⟩;rw[iQw]at hi;obtain⟨z,o,k,hed⟩:=hi;have c:i<ops.size:=(gv.1 k).1;have t:i<a.size:=by omega
  have x:a.getD i false=false:=(by simpa [Array.getD,t] using z);have q : ∀e∈eg o,(λi=>a.getD i false) e=true:=(by intro e S;unfold eg at S;obtain⟨d,hd,rfl⟩:=lX.1 S;obtain⟨T,h2⟩:=Gz.1 hd;exact hed d (by simpa using T) h2);have m : ∀j,(λj=>(a.setIfInBounds i true).getD j false) j=true↔((λj=>a.getD j false) j=true\/j=i):=by
   intro j;simp only;by_cases n:j=i;·subst n;simp[t]
   rw[getD_set_ne false (pF n)];simp[n]
  have:=ON (E:=E) (tc:=tc) (ro:=ro) (K:=wpAnyIn (FW ro) 0 E.P .any ops Q b (a.setIfInBounds i true)) (Q:=Q) C A B D F G I Y htc (L:=λi=>a.getD i false) k x q m U λN w' V=>by
   refine ih _ N w' (by simp[g]) ?_ V;have:=Cv (p:=λj => !a.getD j false) (p':=λj => !(a.setIfInBounds i true).getD j false) (i:=i) (λj W=>by
    simp only[jH]at W ⊢;cases v:a.getD j false with
    | false=>rfl
    | true=>have:=(m j).2 (.inl v);simp only at this;rw[this]at W;cases W) (by simp only[x,sF]) (by have:=(m i).2 (.inr rfl);simp only at this ⊢;rw[this];rfl) (List.range ops.size) (sE.2 c)
   omega
  unfold wpOpIn;rw[k];simp only;split;·rename_i Z;rw[if_pos Z]at this;exact this
  rename_i Z;rw[if_neg Z]at this;exact⟨λ_ _=>trivial,this⟩
end
def JO{E:Env}(S:E.P.follows .mixedOrders=true){ops:Array Oper}(b:Rw E ops=true){pc:FuncId->List AV->Option AV}(p : ∀f n y,pc f n=some y->iz E.P f n y)
 {tc:qJ->List AV->ab->bU} (v : ∀f n H y H',tc f n H=some (y,H')->kU E.P f n H y H') {nt dep id:Nat} {st c:St} {M:Mem} {ι:Map} {a:Act} {w:World} {ro:Option Nat} {Q:Exit->Act->World->Prop}
 (h:lU E pc tc nt dep true ops ops.toList st=some c) (G:qo E ops c=true) (e:vT M ι st nt a w) (K : ∀x w',iP M ι st a w nt c x w'->Q .normal x w'):(Code.region id ops true).wpIn (FW ro) 0 E.P Q a w:=by
 obtain⟨sts,R,z,O⟩:=D7 ops.toList st c h;rw[yw]at z;have C:=Ue b;have A : ∀i o,ops[i]?=some o->evalOp E pc tc nt dep true ops o (sts i)=some (sts (i+1)):=λi o J=>O i o (by simpa using J);subst R;subst z;have u:(o9 E ops).isEmpty=false:=by
  unfold Rw at b;rw[bD]at b;simpa using b.1
 unfold qo at G;rw[u,nk,bD,bD]at G;refine wpIn_region_any S ?_;have s:qX M ι (sts 0).hp.get w M ι (sts 0).hp.get { w with drawn:=w.drawn+1} :=
  ⟨rfl,rfl,rfl,aV _,λ_ _ _=>rfl,λ_ _ _ h=>h,λ_ _ h=>h,λr k l h L => .inr ⟨r,k,l,h,L,rfl⟩,λ_ _ _ h => .inl h⟩
 have d : ∀i,(Array.replicate ops.size false).getD i false=false:=by
  intro i;simp only[zN,Ks];split<;>rfl
 refine Uh (tc:=tc) (M:=M) (ι:=ι) (w:=w) (a0:=a) C A G.2.2 e.sim e.dom G.1 G.2.1 p v rfl K ops.size _ a _ (by simp) ?_ ?_;·exact sU iQF (by simp)
 refine⟨λi o hi=>?_,rfl,M,ι,(sts 0).tm,(sts 0).hp.get,0,?_,e.tr,e.nt,e.sim.drew rfl,s,uT _,λj o g=>absurd g (Nat.not_lt_zero _),λq N=>?_,λq=>⟨0,uT _,rfl,λj _ _=>⟨λg=>?_,λg=>absurd g (Nat.not_lt_zero _)⟩⟩⟩;·exact absurd ((d i).symm.trans hi) (by simp)
 ·exact λt=>⟨λi _ hi=>absurd ((d i).symm.trans hi) (by simp),λ_=>rfl⟩
 ·cases m:ι q with| none=>exact absurd m N| some l=>exact .inl (e.dom q l m)
 exact absurd ((d j).symm.trans g) (by simp)
end
end Go.Ab
namespace Go.Ab
open Go.ChangeShapes Go.WideShapes Go.RowKit
structure Kept (W W':World):Prop where
 os:W'.os=W.os
 output:W'.output=W.output
 size:W.heap.size<=W'.heap.size
 old : ∀b,b<W.heap.size->W'.heap[b]?=W.heap[b]?
def Kept.keptBut{W b:World}(h:Kept W b)(a:MemPlace->Prop):W.keptBut b a:=by
 refine⟨h.os,h.output,λi hi=>?_⟩;rw[h.old i hi];have:=iG hi;rw[this];cases W.heap[i]<;>simp
def Kept.frozen{W b:World}(h:Kept W b){a:Addr}(c:a.block<W.heap.size):b.frozen? a=W.frozen? a:=by
 unfold World.frozen?;rw[h.old _ c]
def Kept.same{W a:World}(h:Kept W a){p:MemPlace}(hp:p.block<W.heap.size):W.sameAt a p:=by
 cases p with| cell b off=>exact iQi (h.old b hp)| map b=>exact h.old b hp
section
variable{H:Type}{enc:TypeId × Value->H}{P:Program}
def G5{T:TypeId->Prop}(K:Kids P T)(u : ∀t e,T t->P.underlying t=some (.slice e)->0<P.cellsOf e){W g:World}(J:Kept W g){m:Nat->Bool}{a:Nat} : ∀ {b:List TypeId} {c:List Value} {ds:List (DataW H)} {ps:List MemPlace},(∀t∈b,T t) ->
 DataW.TrodAll enc P W a (λ_=>true) true b c ds ps->(∀p∈ps,m p.block=true)->DataW.TrodAll enc P g a m true b c ds ps:=by
 intro b c ds ps s h j;have k:=h.respare K u s j;have l:=h.lt;clear h j s;induction b generalizing c ds ps with
 | nil=>obtain⟨rfl,rfl,rfl⟩:=trodAll_nil k;exact trodAll_mk0
 | cons t b L=>obtain⟨v,O,d,y,p,q,rfl,rfl,rfl,⟨n,z⟩,N⟩:=trodAll_cons k;refine⟨p,q,⟨n,DataW.trod_carry n t _ _ z λx f=>J.same (l x (B0 _ f))⟩,L N λx f=>l x (Bi _ f),rfl⟩
def Oz{T:TypeId->Prop}(K:Kids P T)(hz : ∀t e,T t->P.underlying t=some (.slice e)->0<P.cellsOf e){f:Func}{s:ChangeSpec}{apart fresh a m:Bool}{W u:World}{args:Array Value}{ds gs:List (DataW H)}{d:List MemPlace}
 (hT : ∀t∈f.params.toList,T t) (L:s.vars=[]) (X:DataW.Whole enc P f.params.toList s.vars apart W args.toList ds gs d) (hs:s.fn H ds = { results:=[.lit (.bool true)],args:=ds})
 {Z:TypeId} (U:f.resultTypes = #[Z]) (R:P.underlying Z=some .bool) (O:Kept W u):s.post enc P f apart fresh a m W args (.bool true) u:=by
 have Q:=X;obtain⟨p,q,S,V,rfl,v,z⟩:=Q;rw[L]at V;obtain⟨rfl,rfl⟩:=trodVars_none V;have y:=S.lt;have k:s.fn H (ds++[]) = { results:=[.lit (.bool true)],args:=ds}:=by rw[mz];exact hs
 have h : ∀(b:Nat)(g:Nat->Bool)(Y:Bool),DataW.TrodAll enc P u b g Y f.resultTypes.toList ((Value.bool true).resultList f.resultTypes.size) (s.fn H (ds++[])).results []:=by
  intro b g Y;rw[U,k];exact trodAll_mk1 (shut_bool R true)
 have c : ∀g:Nat->Bool,(∀x∈p,g x.block=true)->DataW.TrodAll enc P u 0 g true f.params.toList args.toList (s.fn H (ds++[])).args p:=by
  intro g N;rw[k];exact G5 K hz O hT S N
 have l : ∀g:Nat->Bool,DataW.TrodVars enc P u g s.vars (s.fn H (ds++[])).vars []:=by
  intro g;rw[L,k];rfl
 rw[mz]at z v;refine⟨ds,[],p++[],[],p,[],X,h _ _ _,c _ (λx J=>by simpa using y x J),l _,O.keptBut _,λ_=>?_⟩;have j:=trodAll_append (c (λ_=>true) (λ_ _=>rfl)) (h 0 (λ_=>true) true);rw[mz]at j;refine⟨ok_one U rfl (okWide_bool_mk R true),_,[],p++[],⟨p,[],j,(by rw[L];rfl),rfl,?_,?_⟩,λx J _=>J⟩;·intro b n hp;rw[mz]at hp;rw[O.frozen (show(⟨b,n,none⟩:Addr).block<W.heap.size from y _ hp)];exact v b n hp
 intro ha;rw[mz];exact z ha
end
def LU{E:Env}{ok:Array Oper->Bool}(k:E.Ok ok){n:Nat}{f:FuncId}{d:List AV}(h:cD E (bT E n) f d=some (.v (.bool true))){W:World}{us:List Value}
 (j:j7 (λb o=>W.cell? ⟨b,o,none⟩) cT d us):Calls E.P f us.toArray W λe c=>e = .returned (.bool true)/\Kept W c:=by
 refine((UF k h).2 _ W us (λ_ _ _ h=>h) j).mono λe c ⟨v,M',he,hend⟩=>?_;obtain⟨ls,l,g,_⟩:=hend.res ⟨0,0,0,0⟩;have a:ae ⟨0,0,0,0⟩ depth (.v (.bool true)) []=(.v (.bool true),[]):=sP _ depth 1 _ _ rfl;rw[a]at g;cases g;exact⟨he,hend.os,hend.output,hend.size,hend.old⟩
def Gc(E:Env)(l:List FuncId):Bool:=l.all λf=>match E.P.funcs[f]? with
 | some fn => !(fn.name == "runtime.NumGoroutine")&&(match fn.body with | some c=>codeOk (zp E) c | none=>true)
 | none=>false
def aaW(ops:Array Oper)(i:Nat):Nat:=match ops[i]? with
 | some o=>(match o.dst with | some d=>d | none=>0)
 | none=>0
def xj:List (Nat × Nat × Nat × List (Tmp × Tmp))->Array Oper->List (Tmp × Tmp)
 | [],_=>[]
 | (a,b,c,l) :: d,ops=>cond (Nat.beq b ops.size) (cond (Nat.beq a (aaW ops 0)) (cond (Nat.beq c (aaW ops (b - 1))) l (xj d ops)) (xj d ops)) (xj d ops)
def NT(e:List (Nat × Nat × Nat))(o:Oper):Bool:=match o.op with
 | .call c=>(match c.callee with
  | .builtin .append=>(match o.dst,c.args.toList with
   | some d,[.tmp a,.tmp b]=>e.any λ(x,y,z)=>Nat.beq x d&&Nat.beq y a&&Nat.beq z b
   | _,_=>false)
  | .value (.tmp t)=>(match o.dst with
   | some d=>e.any λ(x,y,z)=>Nat.beq x d&&Nat.beq y t&&Nat.beq z 66666
   | none=>false)
  | .builtin .len=>(match o.dst with
   | some d=>e.any λ(x,y,z)=>Nat.beq x d&&Nat.beq y 0&&Nat.beq z 55555
   | none=>false)
  | _=>false)
 | .buildSlice _ n _=>(match o.dst with
  | some d=>e.any λ(x,y,z)=>Nat.beq x d&&Nat.beq y n&&Nat.beq z 77777
  | none=>false)
 | _=>false
def Rl:Option Operand->Bool
 | some (.const (.slice none 0 0))=>true
 | _=>false
def WY(o:Oper):Bool:=match o.op with
 | .call c=>(match c.callee with
  | .builtin .append=>Rl c.args[0]?
  | _=>false)
 | _=>false
def P3(a:List (Nat × Nat × Nat))(o:Oper):Bool:=match o.op with
 | .buildSlice _ n _=>(match o.dst with
  | some d=>a.any λ(x,y,z)=>Nat.beq x d&&Nat.beq y n&&Nat.beq z 88888
  | none=>false)
 | .call c=>(match o.dst with
  | some d=>a.any λ(x,y,z)=>Nat.beq x d&&((Nat.beq y 0&&Nat.beq z 88888)||(Nat.beq z 88889&&(match c.callee with
   | .value (.func g)=>Nat.beq g y
   | _=>false)))
  | none=>false)
 | _=>false
def IA(a:List (Nat × Nat × Nat))(o:Oper):Bool:=WY o||NT a o
def Uz(P:Program)(l bF kV:List FuncId)(strict:Oper->Bool)(apart:Array Oper->List (Tmp × Tmp))(fI:Oper->Bool:=λ_=>false):Env := { fI:=fI,P:=P,strict:=strict,apart:=apart,mode:=λf=>if bF.contains f then (if kV.contains f then 3 else 1) else if kV.contains f then 2 else 0,allowed:=λf=>l.contains f,spec:=λ_ _=>none}
def uG(P:Program)(l bF kV:List FuncId)(strict:Oper->Bool:=λ_=>false)(apart:Array Oper->List (Tmp × Tmp):=λ_=>[])(fI:Oper->Bool:=λ_=>false)(Eu:List (FuncId × List AV × AV):=[])(wide:Oper->Bool:=λ_=>false)(o1:FuncId->Option TypeId:=λ_=>none)(thrSpec:FuncId->List AV->ab->Option (AV × ab):=λ_ _ _=>none)(sm:J7:=Ls):Env:=
 {fI:=fI,P:=P,strict:=strict,apart:=apart,mode:=λf=>if bF.contains f then (if kV.contains f then 3 else 1) else if kV.contains f then 2 else 0,allowed:=λf=>l.contains f,spec:=Hq Eu,ok:=zp (Uz P l bF kV strict apart fI),wide:=wide,o1:=o1,thrSpec:=thrSpec,sm:=sm}
def Su : ∀(n:Nat)(x y:AV),Gm n x y=true->x=y:=by
 intro n;induction n with
 | zero=>intro x y h;simp[Gm]at h
 | succ n a=>
  intro x y h;unfold Gm at h;split at h;·rw[Im h]
  ·simp only[bD]at h;rw[pa a _ _ (iS h.1) h.2]
  ·simp only[bD,iQb]at h;rw[pa a _ _ (iS h.1.2) h.2,iS h.1.1.1,h.1.1.2]
  cases h
def Ru{a ys:List AV}(h:Rv a ys=true):a=ys:=by
 unfold Rv at h;simp only[bD]at h;exact pa (Su 8) _ _ (iS h.1) h.2
def Ud{P:Program}{T:List (FuncId × List AV × AV)}(b : ∀p∈T,iz P p.1 p.2.1 p.2.2){f:FuncId}{args:List AV}{y:AV}(h:Hq T f args=some y):iz P f args y:=by
 induction T with| nil=>cases h| cons p T c=>
  obtain⟨g,xs,z⟩:=p;unfold Hq at h;split at h;·rename_i a;simp only[bD]at a;cases h;have:=b _ (im ..);simp only at this;rw[<-iS a.1,<-Ru a.2];exact this
  exact c (λp hp=>b p (iR _ hp)) h
def Uy{P:Program}{l bF kV:List FuncId}{strict:Oper->Bool}{apart:Array Oper->List (Tmp × Tmp)}{fI:Oper->Bool}{Eu:List (FuncId × List AV × AV)}{wide:Oper->Bool}{o1:FuncId->Option TypeId}{thrSpec:FuncId->List AV->ab->Option (AV × ab)}{sm:J7}(hspec : ∀p∈Eu,iz P p.1 p.2.1 p.2.2)(hm:P.follows .mixedOrders=true)(h0:Gc (uG P l bF kV strict apart fI) l=true)(hover : ∀f t,o1 f=some t->vV P f t)(hthr : ∀f args H y H',thrSpec f args H=some (y,H')->kU P (.fn f) args H y H') :
 (uG P l bF kV strict apart fI Eu wide o1 thrSpec sm).Ok (zp (uG P l bF kV strict apart fI Eu wide o1 thrSpec sm)) where
 fns:=by
  intro f hf;have h:Gc (uG P l bF kV strict apart fI Eu) l=true:=h0;have hf':f∈l:=by simpa [uG] using hf
  have:=eC.1 h f hf';split at this;·rename_i fn hfn;simp only[bD,jH]at this;refine⟨fn,hfn,this.1,λc hc=>?_⟩;have h2:=this.2;rw[hc]at h2;exact h2
  cases this
 specs:=λf args y h=>Ud hspec h
 same:=rfl
 overs:=hover
 thrs:=hthr
 draws:=λops hok _ hpc _ htc nt dep id st st' M ι a w ro Q hr G hO hQ=>by
  rcases Dp.1 hok with h1 | h1
  ·exact JN hm h1 hpc htc hr hO hQ
  exact JO hm h1 hpc htc hr G hO hQ
def Ro{P:Program} : ∀p∈([]:List (FuncId × List AV × AV)),iz P p.1 p.2.1 p.2.2:=λp hp=>by simp at hp
def HM(P:Program)(f:Func):Bool:=match f.resultTypes.toList with
 | [t]=>(match P.underlying t with | some .bool=>true | _=>false)
 | _=>false
def LW{P:Program}{f:Func}(h:HM P f=true) : ∃a,f.resultTypes = #[a]/\P.underlying a=some .bool:=by
 unfold HM at h;split at h
 ·rename_i t b;split at h;·rename_i c;exact⟨t,by rw[<-GD,b],c⟩
  cases h
 cases h
end Go.Ab
