/-
  Mail: what a kind reads. No statement of a seat is proved here.
-/
import Derived.Test.YtehkjjcdkbcebaaGreatMRfGet2
set_option linter.unusedVariables false
set_option linter.unusedSimpArgs false
set_option linter.unusedSectionVars false
set_option linter.unnecessarySimpa false
set_option maxRecDepth 100000
set_option linter.defProp false
namespace Go.Proofs.YtehkjjcdkbcebaaGreat
open Go.Ab
section
attribute [local simp] a7 aL au aJ aH bF kV bc aA aN cw cu aY ba ah bG fG
def bV(ol:List (bp × AV)):List AV:=ol.map λp => .agg (jS p.1++[ru 1 (rows p.1.l)])
@[simp] def gO(ol:List (bp × AV)):(bV ol).length=ol.length:=by simp[bV]
def CC(H:ab)(xo:AV)(ol:List (bp × AV)):Prop :=∃rs,pn 17 H xo (bV ol) rs/\(∀q∈rs,q.t=79\/q.t=58)/\(ol=[]->xo=a9) /\∀r n,xo = .dsl r 0 n none->r.t=79
structure MR (H:ab) (r rm:Ref) (l:List UInt8) (bad:Bool) (m:aD) (ol:List (bp × AV)):Prop where
 pen : ∃xb,XV H r xb l bad
 mail : ∃xo,H.get rm=some (m.bu xo)/\CC H xo ol
 fr:Fr H
 ne:rm≠r
 s1:rm.t≠79/\rm.t≠58
 s2:r.t≠79/\r.t≠58
def C1(H:ab)(r rm:Ref):AY->Prop
 | some (l,m,ol)=>MR H r rm l false m ol
 | none =>∃l m ol,MR H r rm l true m ol
structure J9 (H H':ab) (r rm:Ref) (st:AY):Prop where
 mr:C1 H' r rm st
 old : ∀p k,p.t≠79->p≠r->p≠rm->H.get p=some k->H'.get p=some k
def C1.any{H:ab}{r rm:Ref}{st:AY}(h:C1 H r rm st) : ∃l m ol,MR H r rm l st.isNone m ol:=by
 cases st with| none=>exact h| some s=>exact⟨s.1,s.2.1,s.2.2,h⟩
def MR.cons{H:ab}{r rm:Ref}{l:List UInt8}{bad:Bool}{m:aD}{ol:List (bp × AV)}(h:MR H r rm l bad m ol)(d t:Nat)(e:Option aP):MR ((⟨d,t,H.gen d t,0⟩,e) :: H) r rm l bad m ol:=by
 obtain⟨⟨f,⟨box,sl,few⟩⟩,⟨xo,mail,ops⟩,fr,a,s1,s2⟩:=h;refine⟨⟨f,⟨?_,sl,few⟩⟩,⟨xo,?_,?_⟩,fr.cons d t e,a,s1,s2⟩;·rw[ab.aZ,if_neg (b8 fr (by rw[box];rfl) _ _ _)];exact box
 ·rw[ab.aZ,if_neg (b8 fr (by rw[mail];rfl) _ _ _)];exact mail
 obtain⟨rs,k,j,g⟩:=ops;exact⟨rs,k.bF λq _ b c=>by rw[ab.aZ,if_neg (b8 fr (by rw[c];rfl) _ _ _)];exact c,j,g⟩
def C1.cons{H:ab}{r rm:Ref}{st:AY}(h:C1 H r rm st)(d t:Nat)(a:Option aP):C1 ((⟨d,t,H.gen d t,0⟩,a) :: H) r rm st:=by
 cases st with| none=>obtain⟨l,m,ol,h⟩:=h;exact⟨l,m,ol,h.cons d t a⟩| some s=>exact MR.cons h d t a
def CC.old{H H':ab}{xo:AV}{ol:List (bp × AV)}{r rm:Ref}(h:CC H xo ol)(c:rm.t≠79/\rm.t≠58)(e:r.t≠79/\r.t≠58)(f : ∀p b,p≠r->p≠rm->H.get p=some b->H'.get p=some b):CC H' xo ol:=by
 obtain⟨rs,j,a,k⟩:=h;refine⟨rs,j.bF λq d b g=>f q b ?_ ?_ g,a,k⟩;·rintro rfl;exact(a _ d).elim e.1 e.2
 rintro rfl;exact(a _ d).elim c.1 c.2
def MR.put{H:ab}{r rm:Ref}{l:List UInt8}{bad:Bool}{m:aD}{ol:List (bp × AV)}(h:MR H r rm l bad m ol)(f:aD){j:aD}{xo:AV}(d:H.get rm=some (j.bu xo)):MR (H.put rm (some (f.bu xo))) r rm l bad f ol:=by
 obtain⟨⟨g,⟨box,sl,few⟩⟩,⟨a,mail,ops⟩,fr,c,s1,s2⟩:=h;have e:a=xo:=by rw[d]at mail;simp[aD.bu]at mail;simp only[mail]
 subst e;refine⟨⟨g,⟨by rw[ab.get_put,if_neg c.symm];exact box,sl,few⟩⟩,⟨a,by rw[ab.get_put,if_pos rfl],ops.old s1 s2 λp b _ hp h=>by rw[ab.get_put,if_neg hp];exact h⟩,kb fr (by rw[d];rfl) _,c,s1,s2⟩
def vC(dep:Nat){H:ab}{r rm:Ref}{st:AY}(i:C1 H r rm st){j:Nat}(set:aD->Int->aD)(F : ∀m xo,lE rm 0 j (λv=>(set m v).bu xo))(g : ∀m,∃n,set m n=m)(many:Nat){w:Int}(L:w=many)(J:many=1\/many=2\/many=3){K:AV->ab->Prop}{mk:Mk K}
 (h : ∀y H',C1 H' r rm (rN many set st)->(∀p k,p≠r->p≠rm->H.get p=some k->H'.get p=some k)->K y H'):jF (cU env dep (.fn 65) [.ptr r 0 0,.ptr rm 0 j,aI w] H) K mk:=by
 subst L;obtain⟨l,m,ol,⟨⟨O,N⟩,⟨xo,mail,ops⟩,fr,d,s1,s2⟩⟩:=i.any;obtain⟨n,G⟩:=g m;obtain⟨y,H',I,x⟩:=Al dep (F m xo) (by rw[G];exact mail) d fr N many J;refine jd I (h y H' ?_ x.old);have c:=ops.old s1 s2 x.old;have a:=x.num;have b:=x.pen;cases st with
 | none=>simp only[Option.isNone_none,Bb,if_true]at a b;exact⟨l,m,ol,b,⟨xo,by rw[G]at a;exact a,c⟩,x.fr,d,s1,s2⟩
 | some s=>
  obtain⟨u,q,f⟩:=s;obtain⟨⟨M,E⟩,⟨t,o,C⟩,_,_,_,_⟩:=(i:MR H r rm u false q f);obtain⟨P,A⟩:=g q;obtain⟨Q,H0,B,z⟩:=Al dep (F q t) (by rw[A];exact o) d fr E many J;have e:H0=H':=by rw[I]at B;cases B;rfl
  subst e;have a:=z.num;have b:=z.pen;have c:=C.old s1 s2 z.old;simp only[nk,iQb]at a b;by_cases D:u.length<many
  ·simp only[D,if_true,iQv]at a b;have e:rN many set (some (u,q,f))=none:=by simp[rN,D]
   rw[e];exact⟨u,q,f,b,⟨t,by rw[A]at a;exact a,c⟩,x.fr,d,s1,s2⟩
  simp only[D,iQf,iQV]at a b;have e:rN many set (some (u,q,f))=some (u.drop many,set q (val (u.take many)),f):=by simp[rN,D]
  rw[e];exact⟨b,⟨t,a,c⟩,x.fr,d,s1,s2⟩
def Lq(dep:Nat){H:ab}{r rm rn:Ref}{st:AY}(i:C1 H r rm st){n:Int}(x:H.get rn=some ⟨1,[aI n],false,false⟩)(z:rn≠r)(f:rn≠rm)(o:rn.t≠79/\rn.t≠58)(many:Nat){w:Int}(C:w=many)(A:many=1\/many=2\/many=3){K:AV->ab->Prop}{mk:Mk K}
 (h : ∀y H' v,C1 H' r rm (rN many (λm _=>m) st)->H'.get rn=some ⟨1,[aI v],false,false⟩->(∀l m ol,st=some (l,m,ol)->many<=l.length->v=val (l.take many))->(st=none->v=n)->(∀l m ol,st=some (l,m,ol)->l.length<many->v=n)->(∀p k,p≠r->p≠rn->H.get p=some k->H'.get p=some k)->K y H'):jF (cU env dep (.fn 65) [.ptr r 0 0,.ptr rn 0 0,aI w] H) K mk:=by
 subst C;cases st with
 | none=>obtain⟨l,m,ol,⟨⟨B,q⟩,⟨xo,mail,ops⟩,fr,d,s1,s2⟩⟩:=i;obtain⟨y,H',j,c⟩:=Al dep (EU rn) x z fr q many A;have a:=c.num;have b:=c.pen;simp only[Bb,if_true]at a b;exact jd j (h y H' n ⟨l,m,ol,b,⟨xo,c.old _ _ d f.symm mail,ops.old o s2 c.old⟩,c.fr,d,s1,s2⟩ a (λ_ _ _ e=>by cases e) (λ_=>rfl) (λ_ _ _ e=>by cases e) c.old)
 | some s=>
  obtain⟨l,m,ol⟩:=s;obtain⟨⟨B,q⟩,⟨xo,mail,ops⟩,fr,d,s1,s2⟩:=(i:MR H r rm l false m ol);obtain⟨y,H',j,c⟩:=Al dep (EU rn) x z fr q many A;have a:=c.num;have b:=c.pen;simp only[nk,iQb]at a b;by_cases g:l.length<many
  ·simp only[g,if_true,iQv]at a b;have e:rN many (λm _=>m) (some (l,m,ol))=none:=by simp[rN,g]
   refine jd j (h y H' n ?_ a (λu _ _ e h=>by cases e;omega) (λ_=>rfl) (λ_ _ _ _ _=>rfl) c.old);rw[e];exact⟨l,m,ol,b,⟨xo,c.old _ _ d f.symm mail,ops.old o s2 c.old⟩,c.fr,d,s1,s2⟩
  simp only[g,iQf,iQV]at a b;have e:rN many (λm _=>m) (some (l,m,ol))=some (l.drop many,m,ol):=by simp[rN,g]
  refine jd j (h y H' _ ?_ a (λu _ _ e h=>by cases e;rfl) (λe=>by cases e) (λu _ _ e h=>by cases e;exact absurd h g) c.old);rw[e];exact⟨b,⟨xo,c.old _ _ d f.symm mail,ops.old o s2 c.old⟩,c.fr,d,s1,s2⟩
def MB{H:ab}{r rm:Ref}{st:AY}{many:Nat}(i:C1 H r rm (rN many (λm _=>m) st))(set:aD->Int->aD){v:Int}{m:aD}{xo:AV}(f:H.get rm=some (m.bu xo))(A : ∀l m ol,st=some (l,m,ol)->many<=l.length->v=val (l.take many)) :
 C1 (H.put rm (some ((set m v).bu xo))) r rm (rN many set st):=by
 cases st with| none=>obtain⟨l,b,ol,h⟩:=(i : ∃l m ol,MR H r rm l true m ol);exact⟨l,_,ol,h.put (set m v) f⟩| some s=>
  obtain⟨l,b,ol⟩:=s;by_cases g:l.length<many;·have e:rN many (λm _=>m) (some (l,b,ol))=none:=(by simp[rN,g]);have d:rN many set (some (l,b,ol))=none:=(by simp[rN,g]);rw[e]at i;rw[d];obtain⟨l,b,ol,h⟩:=(i : ∃l m ol,MR H r rm l true m ol);exact⟨l,_,ol,h.put (set m v) f⟩
  have e:rN many (λm _=>m) (some (l,b,ol))=some (l.drop many,b,ol):=(by simp[rN,g]);have d:rN many set (some (l,b,ol))=some (l.drop many,set b (val (l.take many)),ol):=(by simp[rN,g]);rw[e]at i;rw[d,<-A l b ol rfl (by omega)];have i:MR H r rm (l.drop many) false b ol:=i;obtain⟨p,c,_⟩:=i.mail;have q:b=m:=(by rw[f]at c;obtain⟨k,u,D,co,fr,to,a,t0,t1,t2,t3⟩:=m;obtain⟨k',E,o,t,w,y,n,x,C,B,z⟩:=b;simp[aD.bu,a8]at c;have j:k'=k:=pr.1 (by omega);have d:n=a:=pr.1 (by omega);simp[c,j,d]);subst q;exact i.put (set b v) f
section
variable(dep:Nat){H:ab}{r rm:Ref}{st:AY}(i:C1 H r rm st)
include i
theorem TQ : ∃y H',cU env dep (.fn 64) [.ptr r 0 0,.ptr rm 0 0] H=some (y,H')/\J9 H H' r rm (rN 1 (λm v => { m with user:=v}) st):=by
 refine cQ (fn:=Tryz.f64) (c:=wH) (by kernel_rfl) (by kernel_rfl) (by kernel_rfl) (by kernel_rfl) (by kernel_rfl) ?_;refine wq _ _ _ _ _ λg=>?_;have h:=bY (f:=65) (by kernel_rfl);simp[ak, *,qW,h];refine vC (dep+1) i (λm v => { m with user:=v}) (λm xo=>Gh rm m xo) (λm=>⟨m.user,rfl⟩) 1 rfl (.inl rfl) λy H' a d=>?_;exact⟨a,λp k _ e b j=>d p k e b j⟩
theorem TO : ∃y H',cU env dep (.fn 70) [.ptr r 0 0,.ptr rm 0 0] H=some (y,H')/\J9 H H' r rm (rN 3 (λm v => { m with fromN:=v}) st):=by
 refine cQ (fn:=Tryz.f70) (c:=wF) (by kernel_rfl) (by kernel_rfl) (by kernel_rfl) (by kernel_rfl) (by kernel_rfl) ?_;refine wj _ _ _ _ _ λg=>?_;have h:=bY (f:=65) (by kernel_rfl);simp[ak, *,qU,h];refine vC (dep+1) i (λm v => { m with fromN:=v}) (λm xo=>vL rm m xo) (λm=>⟨m.fromN,rfl⟩) 3 rfl (.inr (.inr rfl)) λy H' a d=>?_;exact⟨a,λp k _ e b j=>d p k e b j⟩
theorem QJ : ∃y H',cU env dep (.fn 72) [.ptr r 0 0,.ptr rm 0 0] H=some (y,H')/\J9 H H' r rm st:=by
 refine cQ (fn:=Tryz.f72) (c:=wE) (by kernel_rfl) (by kernel_rfl) (by kernel_rfl) (by kernel_rfl) (by kernel_rfl) ?_;refine wi _ _ _ _ _ λg=>?_;exact⟨i,λp k _ _ _ a=>a⟩
theorem Hb : ∃y H',cU env dep (.fn 73) [.ptr r 0 0,.ptr rm 0 0] H=some (y,H')/\J9 H H' r rm (rN 2 (λm v => { m with code:=v}) st):=by
 refine cQ (fn:=Tryz.f73) (c:=AN) (by kernel_rfl) (by kernel_rfl) (by kernel_rfl) (by kernel_rfl) (by kernel_rfl) ?_;refine zP _ _ _ _ _ λg=>?_;have J:=bY (f:=65) (by kernel_rfl);obtain⟨l,m,ol,⟨⟨K,z⟩,⟨xo,hm,ops⟩,fr,I,s1,s2⟩⟩:=i.any;have A:(H.get r).isSome=true:=by rw[z.box];rfl
 have D:(H.get rm).isSome=true:=by rw[hm];rfl
 unfold aD.bu at hm;simp[ak, *,vR,J];refine Lq (dep+1) (i.cons _ _ _) (rn:=⟨dep+1,4,H.gen (dep+1) 4,0⟩) (n:=m.code) (by simp) (b8 fr A _ _ _) (b8 fr D _ _ _) (show(4:Nat)≠79/\(4:Nat)≠58 by decide) 2 rfl (.inr (.inl rfl)) λy H' v b G d o s w=>?_;obtain⟨L,E,F,x⟩:=b.any;obtain⟨q,j,_⟩:=x.mail;have a:J9 H (H'.put rm (some (({ E with code:=v}:aD).bu q))) r rm (rN 2 (λm v => { m with code:=v}) st):=⟨MB b (λm v => { m with code:=v}) j (λl m ol e h=>d l m ol e h),λp k B C u t=>by
  rw[ab.get_put,if_neg u];refine w p k C ?_ (by rw[ab.aZ,if_neg (b8 fr (by rw[t];rfl) _ _ _)];exact t);exact(b8 fr (by rw[t];rfl) _ _ _).symm⟩
 unfold aD.bu at j a;clear i b d o s w x hm ops z;simp[*];all_goals exact a
theorem IV : ∃y H',cU env dep (.fn 71) [.ptr r 0 0,.ptr rm 0 0] H=some (y,H')/\J9 H H' r rm (rN 1 (λm v => { m with asked:=u8 v}) st):=by
 refine cQ (fn:=Tryz.f71) (c:=yP) (by kernel_rfl) (by kernel_rfl) (by kernel_rfl) (by kernel_rfl) (by kernel_rfl) ?_;refine yA _ _ _ _ _ λg=>?_;have J:=bY (f:=65) (by kernel_rfl);obtain⟨l,m,ol,⟨⟨K,z⟩,⟨xo,hm,ops⟩,fr,I,s1,s2⟩⟩:=i.any;have A:(H.get r).isSome=true:=by rw[z.box];rfl
 have D:(H.get rm).isSome=true:=by rw[hm];rfl
 unfold aD.bu at hm;simp[ak, *,tB,J];refine Lq (dep+1) (i.cons _ _ _) (rn:=⟨dep+1,4,H.gen (dep+1) 4,0⟩) (n:=(m.asked.toNat:Int)) (by simp) (b8 fr A _ _ _) (b8 fr D _ _ _) (show(4:Nat)≠79/\(4:Nat)≠58 by decide) 1 rfl (.inl rfl) λy H' v b G d o s w=>?_;obtain⟨L,E,F,x⟩:=b.any;obtain⟨q,j,_⟩:=x.mail;have a:J9 H (H'.put rm (some (({ E with asked:=u8 v}:aD).bu q))) r rm (rN 1 (λm v => { m with asked:=u8 v}) st):=⟨MB b (λm v => { m with asked:=u8 v}) j (λl m ol e h=>d l m ol e h),λp k B C u t=>by
  rw[ab.get_put,if_neg u];refine w p k C ?_ (by rw[ab.aZ,if_neg (b8 fr (by rw[t];rfl) _ _ _)];exact t);exact(b8 fr (by rw[t];rfl) _ _ _).symm⟩
 unfold aD.bu at j a;clear i b d o s w x hm ops z;simp[*];all_goals exact a
theorem Om : ∃y H',cU env dep (.fn 74) [.ptr r 0 0,.ptr rm 0 0] H=some (y,H')/\J9 H H' r rm (rN 2 (λm v => { m with code:=v}) (rN 3 (λm v => { m with serial:=v}) st)):=by
 refine cQ (fn:=Tryz.f74) (c:=wD) (by kernel_rfl) (by kernel_rfl) (by kernel_rfl) (by kernel_rfl) (by kernel_rfl) ?_;refine wh _ _ _ _ _ λg=>?_;have s:=bY (f:=65) (by kernel_rfl);have a:=bY (f:=73) (by kernel_rfl);simp[ak, *,qT,s,a];refine vC (dep+1) i (λm v => { m with serial:=v}) (λm xo=>Cw rm m xo) (λm=>⟨m.serial,rfl⟩) 3 rfl (.inr (.inr rfl)) λy H' d o=>?_;obtain⟨u,H2,l,h,j⟩:=Hb (dep+1) d;have b:J9 H H2 r rm (rN 2 (λm v => { m with code:=v}) (rN 3 (λm v => { m with serial:=v}) st)):=⟨h,λp k n q e t=>j p k n q e (o p k q e t)⟩;clear i d h o j;simp[s,a,l];all_goals exact b
theorem QI : ∃y H',cU env dep (.fn 77) [.ptr r 0 0,.ptr rm 0 0] H=some (y,H')/\J9 H H' r rm (rN 3 (λm v => { m with t3:=v}) (rN 3 (λm v => { m with t2:=v}) (rN 3 (λm v => { m with t1:=v}) (rN 3 (λm v => { m with t0:=v}) (rN 1 (λm v => { m with asked:=u8 v}) st))))):=by
 refine cQ (fn:=Tryz.f77) (c:=uL) (by kernel_rfl) (by kernel_rfl) (by kernel_rfl) (by kernel_rfl) (by kernel_rfl) ?_;refine tS _ _ _ _ _ λg=>?_;have A:=bY (f:=71) (by kernel_rfl);have b:=bY (f:=65) (by kernel_rfl);obtain⟨E,H1,s,u,o⟩:=IV (dep+1) i;simp[ak, *,pZ,A];clear s;refine cX _ _ _ _ _ _ λg=>?_;simp[ak, *,cL,b];refine vC (dep+1) u (λm v => { m with t0:=v}) (λm xo=>Ns rm m xo) (λm=>⟨m.t0,rfl⟩) 3 rfl (.inr (.inr rfl)) λy H2 w x=>?_;simp[b];refine cX _ _ _ _ _ _ λg=>?_;simp[ak, *,cL,b];refine vC (dep+1) w (λm v => { m with t1:=v}) (λm xo=>Nr rm m xo) (λm=>⟨m.t1,rfl⟩) 3 rfl (.inr (.inr rfl)) λy B j e=>?_;simp[b];refine cX _ _ _ _ _ _ λg=>?_;simp[ak, *,cL,b];refine vC (dep+1) j (λm v => { m with t2:=v}) (λm xo=>Nq rm m xo) (λm=>⟨m.t2,rfl⟩) 3 rfl (.inr (.inr rfl)) λy C n q=>?_;simp[b];refine cX _ _ _ _ _ _ λg=>?_;simp[ak, *,cL,b];refine vC (dep+1) n (λm v => { m with t3:=v}) (λm xo=>Np rm m xo) (λm=>⟨m.t3,rfl⟩) 3 rfl (.inr (.inr rfl)) λy D l h=>?_;simp[b];refine cX _ _ _ _ _ _ λg=>?_;simp[ak, *,cL,b];exact⟨l,λp k t d a z=>h p k d a (q p k d a (e p k d a (x p k d a (o p k t d a z))))⟩
end
def qG{z:Nat}{H:ab}{s:AV}{es':List AV}{rs:List Ref}(h:pn z H s es' rs):s.cells=[s]/\s.one=true:=by
 rcases h with ⟨rfl,_,_⟩ | ⟨r,rfl,_,_,_⟩ | ⟨r,es,rfl,_⟩<;>exact⟨rfl,rfl⟩
def O4{z:Nat}{H:ab}{s:AV}{es':List AV}{rs:List Ref}(h:pn z H s es' rs)(a:es'=[]->s=a9):s = .v (.slice none 0 0) \/∃r n,s = .dsl r 0 n none:=by
 rcases h with ⟨rfl,_,_⟩ | ⟨r,rfl,he,_,_⟩ | ⟨r,es,rfl,_⟩
 ·exact .inl rfl
 ·exact .inl (a he)
 exact .inr ⟨_,_,rfl⟩
def Hf{g:cb} : ∀ {ys:List AV},ys.all pP=true->F2 (DC g) ys ys
 | [],_=>trivial
 | y :: ys,h=>by
  simp only[uU,bD]at h;exact⟨.inl ⟨rfl,h.1⟩,Hf h.2⟩
def Rc(dep:Nat){H:ab}{r rm:Ref}{l:List UInt8}{m:aD}{ol:List (bp × AV)}(hM:MR H r rm l false m ol)(k:Nat)(w:Int)(hw:(k:Int)<w)(hk:k<1000)(hol:ol.length<1000){Q:AV->ab->Prop}
 (hQ : ∀H',C1 H' r rm (I8 (some (l,m,ol)))->(∀p k,p.t≠79->p≠r->p≠rm->H.get p=some k->H'.get p=some k)->bL env Tryz.f67 (dep+1) an [(6,aI ((k:Int)+1)),(0,.ptr r 0 0),(1,.ptr rm 0 11),(2,aI w)] H' Q) :
 bL env Tryz.f67 (dep+1) an [(6,aI k),(0,.ptr r 0 0),(1,.ptr rm 0 11),(2,aI w)] H Q:=by
 refine cB _ _ _ _ _ _ _ λg=>?_;obtain⟨⟨xb,⟨box,sl,few⟩⟩,⟨xo,mail,ops⟩,hF,hne,s1,s2⟩:=hM;have A:=TC sl (by omega);have l1:(H.get r).isSome=true:=by rw[box];rfl
 have l3:(H.get rm).isSome=true:=by rw[mail];rfl
 have Y:=hne.symm;have hr:=sl.r;have w2:=iQa ((k:Int)+1) (by omega);have hw':((k:Int)<w)=True:=by simp[hw]
 clear hw;cases hg:nD l with
 | false=>
  have e:I8 (some (l,m,ol))=none:=(by simp[I8,hg]);rw[e]at hQ;clear e;have hQ' : ∀H',(∃l m ol,MR H' r rm l true m ol)->(∀p k,p.t≠79->p≠r->p≠rm->H.get p=some k->H'.get p=some k)->bL env Tryz.f67 (dep+1) an [(6,aI ((k:Int)+1)),(0,.ptr r 0 0),(1,.ptr rm 0 11),(2,aI w)] H' Q:=hQ;clear hQ;rw[nK,hg,if_neg (by decide),ni]at A;unfold aD.bu at mail;simp[ak, *,ay];refine hQ' _ ⟨l,m,ol,⟨⟨xb,⟨?_,sl,few⟩⟩,⟨xo,?_,?_⟩,(by simp(maxDischargeDepth:=12) [rE, *]),hne,s1,s2⟩⟩ (λp b h79 D hp2 F=>?_);·simp[ab.get_put,dR,dS, *]
  ·unfold aD.bu;simp[ab.get_put,dR,dS, *]
  ·refine ops.old s1 s2 λp b D hp2 F=>?_;have lp:(H.get p).isSome=true:=by rw[F];rfl
   have hp1':=D.symm;simp[ab.get_put,dR,dS, *]
  have lp:(H.get p).isSome=true:=by rw[F];rfl
  have hp1':=D.symm;simp[ab.get_put,dR,dS, *]
 | true=>
  have e:I8 (some (l,m,ol))=some (l.drop (jO l),m,ol++[(fR l,lV (fR l).l)]):=(by simp[I8,hg]);rw[e]at hQ;clear e;obtain⟨_,_,hsz,_⟩:=uK hg;rw[nK,hg,if_pos rfl]at A;have e8 : ∀n,(aQ l).drop n=aQ (l.drop n):=λn=>by simp[aQ]
  generalize jO l=sz at *;have hrl:=(qe (fR l).l).r;have hrv:=ze (fR l).l;have hQ' : ∀H',MR H' r rm (l.drop sz) false m (ol++[(fR l,lV (fR l).l)])->(∀p k,p.t≠79->p≠r->p≠rm->H.get p=some k->H'.get p=some k)->bL env Tryz.f67 (dep+1) an [(6,aI ((k:Int)+1)),(0,.ptr r 0 0),(1,.ptr rm 0 11),(2,aI w)] H' Q:=hQ;clear hQ hg;generalize fR l=o at *;generalize lV o.l=rl at *;obtain⟨V,⟨S,L,U⟩,X,⟨⟨⟨N,W,O⟩,T⟩,v⟩,⟨⟨B,u,f⟩,s⟩,⟨x,C⟩,I⟩:=o;simp only[jS,GB,ko]at A;clear hrv;have hsf:=λg=>vo (P:=env.P) (t:=27) (z:=1) (by kernel_rfl) g sl (n:=(sz:Int)) (by omega) (by simp;omega);have hrf:(∀r i j,lu xb (.ptr r i j)=true) /\∀r a b c,lu (.bO r a b c) xb=true:=by
   rcases sl with ⟨rfl,_⟩ | ⟨c,rfl,_⟩<;>exact⟨λ_ _ _=>rfl,λ_ _ _ _=>rfl⟩
  obtain⟨hrf,hrf2⟩:=hrf;unfold aD.bu at mail;obtain⟨rs,hd,ht,hon,Z⟩:=ops;have hone:=qG hd;have E:=O4 hd (λe=>hon (by simpa [bV] using e));have hT:Nj env.P 24 17 112=true:=by kernel_rfl
  have hA:E1 env.P 24=true:=(by kernel_rfl);have hrs1:r ∉ rs:=λh=>(ht _ h).elim s2.1 s2.2;have hrs2:rm ∉ rs:=λh=>(ht _ h).elim s1.1 s1.2;have hrs3 : ∀g,(⟨dep+1,58,H.gen (dep+1) 58,g⟩:Ref) ∉ rs:=λg h=>by
   obtain⟨b,F⟩:=hd.live _ h;rw[hF (dep+1) 58 _ g (aV _)]at F;cases F
  have hrl2:(rows I).length=I.length:=(by simp);have hx1 : ∀i j,lu xo (.ptr r i j)=true:=λi j=>by
   rcases E with rfl | ⟨q,n,rfl⟩
   ·rfl
   have:q≠r:=λe=>s2.1 (by rw[<-e];exact Z _ _ rfl);simp[lu,iC,this]
  have hx2:lu xo xb=true:=(by rcases sl with ⟨rfl,_⟩ | ⟨c,rfl,_⟩<;>rcases E with rfl | ⟨q,n,rfl⟩<;>rfl);have hx3 : ∀a,lu (.agg a) xb=true:=λa=>by rcases sl with ⟨rfl,_⟩ | ⟨c,rfl,_⟩<;>rfl
  have d : ∀(r2:Ref)(H2:ab)(G:List Ref)(ys:List AV)(efs:List Ref),ys=jS ⟨V,⟨S,L,U⟩,X,⟨⟨⟨N,W,O⟩,T⟩,v⟩,⟨⟨B,u,f⟩,s⟩,⟨x,C⟩,I⟩++[ru 1 (rows I)]->sv H2 [(r,⟨3,[.agg [xb,aB true,aB false]],false,false⟩),(rm,m.bu xo)] [⟨17,.dsl r2 0 ((bV ol).length+1) none,bV ol++[.agg ys],G⟩] ->
   (∀p b,p.t≠79->p≠r->p≠rm->H.get p=some b->H2.get p=some b)->(∀q∈G,q∈rs\/q∈efs\/q=r2)->(∀q∈efs,q.t=58)->(r2.t=79 \/∃r n,xo = .dsl r 0 n none/\r2.t=r.t) ->∀xd,Sl 1 (aQ (l.drop sz)) xd->Fr ((H2.put rm (some (m.bu (.dsl r2 0 ((bV ol).length+1) none)))).put r (some ⟨3,[.agg [xd,aB true,aB false]],false,false⟩)) ->
   bL env Tryz.f67 (dep+1) an [(6,aI ((k:Int)+1)),(0,.ptr r 0 0),(1,.ptr rm 0 11),(2,aI w)] ((H2.put rm (some (m.bu (.dsl r2 0 ((bV ol).length+1) none)))).put r (some ⟨3,[.agg [xd,aB true,aB false]],false,false⟩)) Q:=by
   rintro r2 H2 G ys efs rfl hS hold hrs hef J xd R hFr;have t2:r2.t=79:=by
    rcases J with h | ⟨q,n,h,e⟩
    ·exact h
    rw[e];exact Z _ _ h
   have n1:=hS.sep _ (l7.2 rfl) (r,⟨3,[.agg [xb,aB true,aB false]],false,false⟩) (by simp);have n2:=hS.sep _ (l7.2 rfl) (rm,m.bu xo) (by simp);simp only at n1 n2;have hrow:=hS.row _ (l7.2 rfl);refine hQ' _ ⟨⟨xd,⟨?_,R,by simp;omega⟩⟩,⟨.dsl r2 0 ((bV ol).length+1) none,?_,⟨G,?_,?_,?_,?_⟩⟩,hFr,hne,s1,s2⟩ (λp b h79 D hp2 F=>?_);·rw[ab.get_put,if_pos rfl]
   ·rw[ab.get_put,if_neg hne,ab.get_put,if_pos rfl]
   ·have:bV (ol++[(⟨V,⟨S,L,U⟩,X,⟨⟨⟨N,W,O⟩,T⟩,v⟩,⟨⟨B,u,f⟩,s⟩,⟨x,C⟩,I⟩,rl)])=bV ol++[.agg (jS ⟨V,⟨S,L,U⟩,X,⟨⟨⟨N,W,O⟩,T⟩,v⟩,⟨⟨B,u,f⟩,s⟩,⟨x,C⟩,I⟩++[ru 1 (rows I)])]:=(by simp[bV]);rw[this];refine hrow.bF λq hq b F=>?_;rw[ab.get_put,if_neg (λe=>n1 (by rw[<-e];exact hq)),ab.get_put,if_neg (λe=>n2 (by rw[<-e];exact hq))];exact F
   ·intro q hq;rcases hrs q hq with h | h | rfl
    ·exact ht q h
    ·exact .inr (hef q h)
    exact .inl t2
   ·intro e;simp at e
   ·intro q n e;cases e;exact t2
   rw[ab.get_put,if_neg D,ab.get_put,if_neg hp2];exact hold p b h79 D hp2 F
  clear hQ';by_cases hal:rows I=[]
  ·rw[hal,Em]at A d;simp[ak, *,ay];refine NF (fs:=[(r,⟨3,[.agg [xb,aB true,aB false]],false,false⟩),(rm,m.bu xo)]) (efs:=[]) (rows:=[]) (rs:=rs) (es':=bV ol) (cs:=jS ⟨V,⟨S,L,U⟩,X,⟨⟨⟨N,W,O⟩,T⟩,v⟩,⟨⟨B,u,f⟩,s⟩,⟨x,C⟩,I⟩++[a9]) (ys:=jS ⟨V,⟨S,L,U⟩,X,⟨⟨⟨N,W,O⟩,T⟩,v⟩,⟨⟨B,u,f⟩,s⟩,⟨x,C⟩,I⟩++[a9]) (dp:=dep+1) (t1:=78) hT hA E ?_ ?_ rfl rfl (by decide) rfl ?_ ?_ λr2 H2 G y hk2 ht2 J=>?_
   ·refine⟨(by simp(maxDischargeDepth:=12) [rE, *]),λp hp=>?_,?_,λt M=>?_,λt M p hp=>?_,iQC _ _⟩
    ·rcases dG.1 hp with rfl | hp
     ·simp[ab.get_put,dR,dS, *]
     obtain rfl:=l7.1 hp;unfold aD.bu;simp[ab.get_put,dR,dS, *]
    ·simp[Y]
    ·obtain rfl:=l7.1 M;refine hd.bF λq hq b F=>?_;have lq:(H.get q).isSome=true:=by rw[F];rfl
     have q1:q≠r:=λe=>hrs1 (e ▸ hq);have q1':=q1.symm;simp[ab.get_put,dR,dS, *]
    obtain rfl:=l7.1 M;rcases dG.1 hp with rfl | hp
    ·exact hrs1
    obtain rfl:=l7.1 hp;exact hrs2
   ·exact F2.app (Hf rfl) ⟨.inl ⟨rfl,rfl⟩,trivial⟩
   ·rw[gO];simp only[aY];omega
   ·simp[ab.gen,xD, *]
   have g1:=y.has (r,⟨3,[.agg [xb,aB true,aB false]],false,false⟩) (by simp);have g2:=y.has (rm,m.bu xo) (by simp);have lr:=d r2 H2 G _ [] rfl y (λp b h79 D hp2 F=>hk2 p b (by
    have lp:(H.get p).isSome=true:=by rw[F];rfl
    have hp1':=D.symm;simp[ab.get_put,dR,dS, *]) (λn e=>h79 (Z _ _ e))) ht2 (by simp) J
   have hF2:=y.fr;clear d hk2 ht2 J y;have q1:(H2.get r).isSome=true:=by rw[g1];rfl
   have q2:(H2.get rm).isSome=true:=by rw[g2];rfl
   unfold aD.bu at g2 lr;simp[ak, *];obtain⟨xd,R,K⟩:=hsf H2.get;refine EN R ?_;rw[BW,e8]at K;have hrd:=K.r;clear R hsf e8 A box;simp[ak, *,ab.get_put];refine⟨?_,?_⟩;·repeat' (first | rfl | exact hx3 _ | apply And.intro)
   rw[gO]at lr;exact lr xd K (kb (kb hF2 q2 _) (by rw[ab.get_put,if_neg Y,g1];rfl) _)
  rw[rr 1 hal]at A d;simp[ak, *,ay];refine NF (fs:=[(r,⟨3,[.agg [xb,aB true,aB false]],false,false⟩),(rm,m.bu xo)]) (efs:=[(⟨dep+1,58,H.gen (dep+1) 58,0⟩,⟨1,rows I,true,false⟩)]) (rows:=[]) (rs:=rs) (es':=bV ol) (cs:=jS ⟨V,⟨S,L,U⟩,X,⟨⟨⟨N,W,O⟩,T⟩,v⟩,⟨⟨B,u,f⟩,s⟩,⟨x,C⟩,I⟩++[.bO ⟨dep+1,58,H.gen (dep+1) 58,0⟩ 0 I.length none]) (ys:=jS ⟨V,⟨S,L,U⟩,X,⟨⟨⟨N,W,O⟩,T⟩,v⟩,⟨⟨B,u,f⟩,s⟩,⟨x,C⟩,I⟩++[.fsl 1 (rows I) none]) (dp:=dep+1) (t1:=78) hT hA E ?_ ?_ rfl rfl (by decide) rfl ?_ ?_ λr2 H2 G y hk2 ht2 J=>?_
  ·refine⟨(by simp(maxDischargeDepth:=12) [rE, *]),λp hp=>?_,?_,λt M=>?_,λt M p hp=>?_,iQC _ _⟩
   ·rcases dG.1 hp with rfl | hp
    ·simp[ab.get_put,dR,dS, *]
    rcases dG.1 hp with rfl | hp
    ·simp[ab.get_put,dR,dS, *]
    obtain rfl:=l7.1 hp;unfold aD.bu;simp[ab.get_put,dR,dS, *]
   ·simp[Y,dR,dS, *]
   ·obtain rfl:=l7.1 M;refine hd.bF λq hq b F=>?_;have lq:(H.get q).isSome=true:=by rw[F];rfl
    have q1:q≠r:=λe=>hrs1 (e ▸ hq);have q1':=q1.symm;simp[ab.get_put,dR,dS, *]
   obtain rfl:=l7.1 M;rcases dG.1 hp with rfl | hp
   ·exact hrs3 0
   rcases dG.1 hp with rfl | hp
   ·exact hrs1
   obtain rfl:=l7.1 hp;exact hrs2
  ·refine F2.app (Hf rfl) ⟨.inr ⟨⟨dep+1,58,H.gen (dep+1) 58,0⟩,1,rows I,none,by rw[hrl2],rfl,?_,by decide⟩,trivial⟩;simp[ab.get_put,dR,dS, *]
  ·rw[gO];simp only[aY];omega
  ·simp[ab.gen,xD, *]
  have g1:=y.has (r,⟨3,[.agg [xb,aB true,aB false]],false,false⟩) (by simp);have g2:=y.has (rm,m.bu xo) (by simp);have lr:=d r2 H2 G _ [⟨dep+1,58,H.gen (dep+1) 58,0⟩] rfl y (λp b h79 D hp2 F=>hk2 p b (by
   have lp:(H.get p).isSome=true:=by rw[F];rfl
   have hp1':=D.symm;simp[ab.get_put,dR,dS, *]) (λn e=>h79 (Z _ _ e))) ht2 (by simp) J
  have hF2:=y.fr;clear d hk2 ht2 J y;have q1:(H2.get r).isSome=true:=by rw[g1];rfl
  have q2:(H2.get rm).isSome=true:=by rw[g2];rfl
  unfold aD.bu at g2 lr;simp[ak, *];obtain⟨xd,R,K⟩:=hsf H2.get;refine EN R ?_;rw[BW,e8]at K;have hrd:=K.r;clear R hsf e8 A box;simp[ak, *,ab.get_put];refine⟨?_,?_⟩;·repeat' (first | rfl | exact hx3 _ | apply And.intro)
  rw[gO]at lr;exact lr xd K (kb (kb hF2 q2 _) (by rw[ab.get_put,if_neg Y,g1];rfl) _)
def zj(dep:Nat){r rm:Ref}{w:Int}{Q:AV->ab->Prop}(i:Int){H:ab}(a:C1 H r rm none)(c : ∀y,Q y H):bL env Tryz.f67 (dep+1) an [(6,aI i),(0,.ptr r 0 0),(1,.ptr rm 0 11),(2,aI w)] H Q:=by
 refine cB _ _ _ _ _ _ _ λg=>?_;obtain⟨l,m,ol,⟨⟨b,⟨box,sl,few⟩⟩,_,_,_,_,_⟩⟩:=a;by_cases hi:i<w;·simp[ak, *,ay]
 simp[ak, *,ay]
def MR.Q5{H:ab}{r rm:Ref}{l:List UInt8}{bad:Bool}{m:aD}{ol:List (bp × AV)}(h:MR H r rm l bad m ol)(a:Bool){d:AV}(g:H.get r=some ⟨3,[.agg [d,aB true,aB bad]],false,false⟩):MR (H.put r (some ⟨3,[.agg [d,aB true,aB a]],false,false⟩)) r rm l a m ol:=by
 obtain⟨⟨f,⟨box,sl,few⟩⟩,⟨xo,mail,ops⟩,fr,c,s1,s2⟩:=h;have e:d=f:=by rw[g]at box;simp at box;exact box
 subst e;exact⟨⟨d,⟨by rw[ab.get_put,if_pos rfl],sl,few⟩⟩,⟨xo,by rw[ab.get_put,if_neg c];exact mail,ops.old s1 s2 λp b hp _ h=>by rw[ab.get_put,if_neg hp];exact h⟩,kb fr (by rw[g];rfl) _,c,s1,s2⟩
def CC.len{H:ab}{xo:AV}{ol:List (bp × AV)}(h:CC H xo ol):pz xo=some ol.length:=by
 obtain⟨rs,a,_,_,_⟩:=h;rw[a.len,gO]
def Lj(dep:Nat){r rm:Ref}{w:Int}{Q:AV->ab->Prop} :
 ∀(n k:Nat)(i:Int)(st:AY)(H:ab),w=(k+n:Nat)->k+n<1000->i=k->(∀l m ol,st=some (l,m,ol)->ol.length<=k)->C1 H r rm st ->
 (∀y H',C1 H' r rm (vx n st)->(∀p k,p.t≠79->p≠r->p≠rm->H.get p=some k->H'.get p=some k)->Q y H') ->
 bL env Tryz.f67 (dep+1) an [(6,aI i),(0,.ptr r 0 0),(1,.ptr rm 0 11),(2,aI w)] H Q:=by
 intro n;induction n with
 | zero=>
  rintro k i st H hw hk rfl hol a hQ;cases st with
  | none=>exact zj dep _ a λy=>hQ y H a λp k _ _ _ h=>h
  | some s=>
   obtain⟨l,m,ol⟩:=s;have x:=λy=>hQ y H a λp k _ _ _ h=>h;clear hQ;obtain⟨⟨A,⟨box,sl,few⟩⟩,_,_,_,_,_⟩:=(a:MR H r rm l false m ol);have q : ¬((k:Int)<w):=by omega
   refine cB _ _ _ _ _ _ _ λg=>?_;simp[ak, *,ay]
 | succ n v=>
  rintro k i st H hw hk rfl hol a hQ;cases st with
  | none=>exact zj dep _ a λy=>hQ y H (by rw[FX];exact a) λp k _ _ _ h=>h
  | some s=>
   obtain⟨l,m,ol⟩:=s;have z:=hol l m ol rfl;refine Rc dep (a:MR H r rm l false m ol) k w (by omega) (by omega) (by omega) λH' d f=>?_;refine v (k+1) _ (I8 (some (l,m,ol))) H' (by omega) (by omega) (by simp) (λC B u e=>?_) d λy H2 c j=>hQ y H2 c λp k b hp o h=>j p k b hp o (f p k b hp o h);simp only[I8,cR]at e;split at e;·cases e;simp;omega
   cases e
def Vr(dep:Nat){H:ab}{r rm:Ref}{st:AY}(f:C1 H r rm st){w:Int}(n:Nat)(h:w=n)(i:n<1000)(b : ∀l m ol,st=some (l,m,ol)->ol=[]) :
 ∃y H',cU env dep (.fn 67) [.ptr r 0 0,.ptr rm 0 11,aI w] H=some (y,H')/\J9 H H' r rm (vx n st):=by
 refine cQ (fn:=Tryz.f67) (c:=ig) (by kernel_rfl) (by kernel_rfl) (by kernel_rfl) (by kernel_rfl) (by kernel_rfl) ?_;refine hZ _ _ _ _ _ _ λg=>?_;exact Lj dep n 0 _ st H (by omega) (by omega) rfl (λl m ol e=>by rw[b l m ol e];exact aV _) f λy H' a d=>⟨a,d⟩
def WU(dep:Nat){H:ab}{r rm:Ref}(a:C1 H r rm none)(w:Int) :
 ∃y H',cU env dep (.fn 67) [.ptr r 0 0,.ptr rm 0 11,aI w] H=some (y,H')/\J9 H H' r rm none:=by
 refine cQ (fn:=Tryz.f67) (c:=ig) (by kernel_rfl) (by kernel_rfl) (by kernel_rfl) (by kernel_rfl) (by kernel_rfl) ?_;refine hZ _ _ _ _ _ _ λg=>?_;exact zj dep _ a λy=>⟨a,λp k _ _ _ h=>h⟩
def Ol(dep:Nat){H:ab}{r rm:Ref}{st:AY}(b:C1 H r rm st)(a : ∀l m ol,st=some (l,m,ol)->ol=[]) :
 ∃y H',cU env dep (.fn 66) [.ptr r 0 0,.ptr rm 0 0] H=some (y,H')/\J9 H H' r rm (vx 1 st):=by
 refine cQ (fn:=Tryz.f66) (c:=wG) (by kernel_rfl) (by kernel_rfl) (by kernel_rfl) (by kernel_rfl) (by kernel_rfl) ?_;refine wo _ _ _ _ _ λg=>?_;have d:=bY (f:=67) (by kernel_rfl);obtain⟨y,H',h,e⟩:=Vr (dep+1) b (w:=1) 1 rfl (by omega) a;clear b;simp[ak, *,qV,d]
def TP(dep:Nat){H:ab}{r rm:Ref}{st:AY}(hM:C1 H r rm st)(Z : ∀l m ol,st=some (l,m,ol)->ol=[]) :
 ∃y H',cU env dep (.fn 76) [.ptr r 0 0,.ptr rm 0 0] H=some (y,H')/\J9 H H' r rm (sO (rN 3 (λm v => { m with total:=v}) (rN 3 (λm v => { m with fromN:=v}) st))):=by
 refine cQ (fn:=Tryz.f76) (c:=uM) (by kernel_rfl) (by kernel_rfl) (by kernel_rfl) (by kernel_rfl) (by kernel_rfl) ?_;refine tT _ _ _ _ _ λg=>?_;have hN:=bY (f:=65) (by kernel_rfl);have hT:=bY (f:=67) (by kernel_rfl);simp[ak, *,p6,hN];refine vC (dep+1) hM (λm v => { m with fromN:=v}) (λm xo=>vL rm m xo) (λm=>⟨m.fromN,rfl⟩) 3 rfl (.inr (.inr rfl)) λy1 H1 V U=>?_;have D : ∀l m ol,rN 3 (λm v => { m with fromN:=v}) st=some (l,m,ol)->ol=[]:=by
  intro l m ol e;cases st with
  | none=>cases e
  | some s=>
   simp only[rN,cR]at e;split at e;·cases e
   cases e;exact Z _ _ _ rfl
 generalize rN 3 (λm v => { m with fromN:=v}) st=st1 at *;simp[hN];refine vC (dep+1) V (λm v => { m with total:=v}) (λm xo=>ET rm m xo) (λm=>⟨m.total,rfl⟩) 3 rfl (.inr (.inr rfl)) λy2 H2 J T=>?_;have S : ∀l m ol,rN 3 (λm v => { m with total:=v}) st1=some (l,m,ol)->ol=[]:=by
  intro l m ol e;cases st1 with
  | none=>cases e
  | some s=>
   simp only[rN,cR]at e;split at e;·cases e
   cases e;exact D _ _ _ rfl
 generalize rN 3 (λm v => { m with total:=v}) st1=st2 at *;have F : ∀p k,p.t≠79->p≠r->p≠rm->H.get p=some k->H2.get p=some k:=λp k i hp z h=>T p k hp z (U p k hp z h);clear hM V U T Z D;obtain⟨l,m,ol,⟨⟨xb,hP⟩,⟨xo,hm,ops⟩,fr,hne,s1,s2⟩⟩:=J.any;have l1:(H2.get r).isSome=true:=by rw[hP.box];rfl
 have l2:(H2.get rm).isSome=true:=by rw[hm];rfl
 unfold aD.bu at hm;have hne':=hne.symm;have X:=ops.len;simp[hN, *];refine Lq (dep+1) (J.cons _ _ _) (rn:=⟨dep+1,4,H2.gen (dep+1) 4,0⟩) (n:=(ol.length:Int)) (by simp) (b8 fr l1 _ _ _) (b8 fr l2 _ _ _) (show(4:Nat)≠79/\(4:Nat)≠58 by decide) 1 rfl (.inl rfl) λy K v u hn5 A I N W=>?_;have ne4:=b8 fr l1 (dep+1) 4 0;have ho : ∀p k,p.t≠79->p≠r->p≠rm->H.get p=some k->K.get p=some k:=λp k i hp z h=>by
  have h2:=F p k i hp z h;have lp:(H2.get p).isSome=true:=by rw[h2];rfl
  exact W p k hp (b8 fr lp _ _ _).symm (by rw[ab.aZ,if_neg (b8 fr lp _ _ _)];exact h2)
 clear J F W hm hP ops X;generalize hr4:(⟨dep+1,4,H2.gen (dep+1) 4,0⟩:Ref)=r4 at *;clear hr4;obtain⟨l5,m5,ol5,o⟩:=u.any;obtain⟨M,C⟩:=o.pen;obtain⟨xo5,hm5,hops5⟩:=o.mail;have a:=C.box;have l5':(K.get r).isSome=true:=by rw[a];rfl
 have d : ∀bad,(rN 1 (λm _=>m) st2).isNone=bad->C1 (K.put r (some ⟨3,[.agg [M,aB true,aB true]],false,false⟩)) r rm none:=by
  rintro bad rfl;exact⟨l5,m5,ol5,o.Q5 true a⟩
 have E : ∀b p k,p.t≠79->p≠r->p≠rm->H.get p=some k->(K.put r b).get p=some k:=λb p k i hp z h=>by
  rw[ab.get_put,if_neg hp];exact ho p k i hp z h
 have j:sO st2=none ->∀w,∃y G,cU env (dep+1) (.fn 67) [.ptr r 0 0,.ptr rm 0 11,aI w] (K.put r (some ⟨3,[.agg [M,aB true,aB true]],false,false⟩))=some (y,G)/\J9 H G r rm (sO st2):=by
  intro e w;obtain⟨y,G,hy,P⟩:=WU (dep+1) (d _ rfl) w;rw[e];exact⟨y,G,hy,P.mr,λp k i hp z h=>P.old p k i hp z (E _ p k i hp z h)⟩
 unfold aD.bu at hm5;cases x:(rN 1 (λm _=>m) st2) with
 | none=>
  have e:sO st2=none:=by
   cases st2 with| none=>rfl| some s=>
    simp only[rN,cR]at x;split at x;·rename_i h;show(if s.1.length<1 then none else _)=none;rw[if_pos h]
    cases x
  obtain⟨y7,G,R,B⟩:=j e v;rw[x]at a d;rw[e]at B ⊢;clear j d x u o C A I N;simp only[Option.isNone_none]at a;simp[hT, *]
 | some s5=>
  rw[x]at a u o;cases st2 with
  | none=>cases x
  | some s=>
   obtain⟨q,L,ol0⟩:=s;obtain rfl:=S _ _ _ rfl;have O : ¬q.length<1:=(by intro h;simp only[rN,cR,if_pos h]at x;cases x);obtain rfl:s5=(q.drop 1,L,[]):=(by simp only[rN,cR,if_neg O]at x;cases x;rfl);have hv:=A _ _ _ rfl (by omega);have Q:=ku (q.take 1);by_cases h3:3<v;·have e:sO (some (q,L,[]))=none:=(by show(if q.length<1 then none else if 3<val (q.take 1) then none else _)=none;rw[if_neg O,<-hv,if_pos h3]);obtain⟨y7,G,R,B⟩:=j e v;rw[e]at B ⊢;clear j d x u o C A I N hv Q;simp only[Option.isNone_some]at a;simp[hT, *]
   have e:sO (some (q,L,[]))=vx v.toNat (some (q.drop 1,L,[])):=(by show(if q.length<1 then none else if 3<val (q.take 1) then none else vx (val (q.take 1)).toNat _)=_;rw[if_neg O,<-hv,if_neg h3]);have Y:C1 (K.put r (some ⟨3,[.agg [M,aB true,aB false]],false,false⟩)) r rm (some (q.drop 1,L,[])):=
    MR.Q5 (u:MR K r rm (q.drop 1) false L []) false (by simpa using a)
   obtain⟨y7,G,R,P⟩:=Vr (dep+1) Y (w:=v) v.toNat (by omega) (by omega) (λ_ _ _ e=>by cases e;rfl);have B:J9 H G r rm (sO (some (q,L,[]))):=(by rw[e];exact⟨P.mr,λp k i hp z h=>P.old p k i hp z (E _ p k i hp z h)⟩);clear j d x u o C A I N hv Q e P Y;simp only[Option.isNone_some]at a;simp[hT, *]
end
section
attribute [local simp] a7 aL au aJ aH bF kV bc aA aN cw cu aY ba ah bG fG
def La{P:Program}{t:TypeId}{z:List AV}{c e n:Nat}(b:eJ P t=some (.agg z))(f:lK P t=some (c,e))(g:av P e=some n)(d:List (Nat × AV)) :
 lz P t (some d)=(pS (λi=>some (i * n,n)) z d).map λcs=>(.agg cs,[]):=by
 simp only[lz,b,f,g]
def wz(c:List (Nat × AV)):lz env.P 23 (some c)=(pS (λi=>some (i * 1,1)) [aI 0,aI 0,aI 0,aI 0] c).map λcs=>(.agg cs,[]):=La PV Ms Tc c
attribute [local simp] wz
def vM(k:UInt8)(m:aD):aD:=if k=9 then { m with t0:=0,t1:=0,t2:=0,t3:=0} else m
def wQ(k:UInt8)(m:aD):aD:=if k=4\/k=9 then { m with asked:=0} else m
def xM(k:UInt8)(m:aD):aD:=if k=8 then { m with total:=0} else m
def Ke(k:UInt8)(m:aD):aD:=if k=3\/k=8 then { m with fromN:=0} else m
def L0(k:UInt8)(m:aD):aD:=if k=6\/k=7\/k=10 then { m with code:=0} else m
def ND(k:UInt8)(m:aD):aD:=if k=7 then { m with serial:=0} else m
section
variable{k:UInt8}{r1 r2:Ref}(a:r1≠r2){Q:AV->ab->Prop}{z:AV}(b:z.cells=[z]/\z.one=true)
include a b
theorem Ny{m:aD}{H:ab}(d:H.get r1=some (m.bu z)){b2:AV}(c:H.get r2=some ⟨12,[(aM 0).val a9],false,false⟩)(e : ∀H',Q (m.val z) H') :
 bL env Tryz.f78 0 fY [(2,.ptr r2 0 0),(1,.ptr r1 0 0)] H Q:=by
 obtain⟨h,f⟩:=b;unfold aD.bu at d;unfold aD.val at e c;simp only[aM]at c;refine rQ _ _ _ _ λg=>?_;simp[ak, *,m9,cK,a];done
theorem Nz{m:aD}{H:ab}(h:H.get r1=some (m.bu z))(i:H.get r2=some ⟨12,[(aM 0).val a9],false,false⟩)(c : ∀H',Q (m.val (if k=2\/k=8 then a9 else z)) H') :
 bL env Tryz.f78 0 fZ [(2,.ptr r2 0 0),(1,.ptr r1 0 0),(3,a8 k)] H Q:=by
 have f:=a.symm;have j:(H.get r1).isSome=true:=by rw[h];rfl
 by_cases e:k=2\/k=8;·rw[if_pos e]at c;have d:=Ny (z:=a9) (Q:=Q) a ⟨rfl,rfl⟩ (m:=m) (H:=H.put r1 (some (m.bu a9))) (by rw[ab.get_put,if_pos rfl]) (b2:=a9) (by rw[ab.get_put,if_neg f];exact i) c;unfold aD.bu at h d;clear c b;refine mC _ _ _ _ _ λg=>?_;rcases e with rfl | rfl<;>simp[ak, *,je,cK]
 rw[if_neg e]at c;have d:=Ny (Q:=Q) a b h (b2:=a9) i c;simp only[not_or]at e;obtain⟨k1,l⟩:=e;clear c b;refine mC _ _ _ _ _ λg=>?_;simp[ak, *,je];done
theorem NA{m:aD}{H:ab}(f:H.get r1=some (m.bu z))(j:H.get r2=some ⟨12,[(aM 0).val a9],false,false⟩)(c : ∀H',Q ((vM k m).val (if k=2\/k=8 then a9 else z)) H') :
 bL env Tryz.f78 0 gf [(2,.ptr r2 0 0),(1,.ptr r1 0 0),(3,a8 k)] H Q:=by
 have d:=a.symm;have n:(H.get r1).isSome=true:=by rw[f];rfl
 obtain⟨l,i⟩:=b;by_cases h:k=9;·rw[show vM k m = { m with t0:=0,t1:=0,t2:=0,t3:=0} from if_pos h]at c;have e:=Nz (Q:=Q) a ⟨l,i⟩ (m := { m with t0:=0,t1:=0,t2:=0,t3:=0}) (H:=H.put r1 (some (({ m with t0:=0,t1:=0,t2:=0,t3:=0}:aD).bu z))) (by rw[ab.get_put,if_pos rfl]) (by rw[ab.get_put,if_neg d];exact j) c;unfold aD.bu at f e;clear c;refine mD _ _ _ _ _ λg=>?_;subst h;simp[ak, *,jf,cK]
 rw[show vM k m=m from if_neg h]at c;have e:=Nz (Q:=Q) a ⟨l,i⟩ f j c;clear c;refine mD _ _ _ _ _ λg=>?_;simp[ak, *,jf];done
theorem NB{m:aD}{H:ab}(h:H.get r1=some (m.bu z))(l:H.get r2=some ⟨12,[(aM 0).val a9],false,false⟩)(c : ∀H',Q ((vM k (wQ k m)).val (if k=2\/k=8 then a9 else z)) H') :
 bL env Tryz.f78 0 gh [(2,.ptr r2 0 0),(1,.ptr r1 0 0),(3,a8 k)] H Q:=by
 have f:=a.symm;have n:(H.get r1).isSome=true:=by rw[h];rfl
 obtain⟨i,j⟩:=b;by_cases e:k=4\/k=9;·rw[show wQ k m = { m with asked:=0} from if_pos e]at c;have d:=NA (Q:=Q) a ⟨i,j⟩ (m := { m with asked:=0}) (H:=H.put r1 (some (({ m with asked:=0}:aD).bu z))) (by rw[ab.get_put,if_pos rfl]) (by rw[ab.get_put,if_neg f];exact l) c;unfold aD.bu at h d;clear c;refine mE _ _ _ _ _ λg=>?_;rcases e with rfl | rfl<;>simp[ak, *,jg,cK]
 rw[show wQ k m=m from if_neg e]at c;have d:=NA (Q:=Q) a ⟨i,j⟩ h l c;simp only[not_or]at e;obtain⟨o,k1⟩:=e;clear c;refine mE _ _ _ _ _ λg=>?_;simp[ak, *,jg];done
theorem NC{m:aD}{H:ab}(f:H.get r1=some (m.bu z))(j:H.get r2=some ⟨12,[(aM 0).val a9],false,false⟩)(c : ∀H',Q ((vM k (wQ k (xM k m))).val (if k=2\/k=8 then a9 else z)) H') :
 bL env Tryz.f78 0 gj [(2,.ptr r2 0 0),(1,.ptr r1 0 0),(3,a8 k)] H Q:=by
 have d:=a.symm;have n:(H.get r1).isSome=true:=by rw[f];rfl
 obtain⟨l,i⟩:=b;by_cases h:k=8;·rw[show xM k m = { m with total:=0} from if_pos h]at c;have e:=NB (Q:=Q) a ⟨l,i⟩ (m := { m with total:=0}) (H:=H.put r1 (some (({ m with total:=0}:aD).bu z))) (by rw[ab.get_put,if_pos rfl]) (by rw[ab.get_put,if_neg d];exact j) c;unfold aD.bu at f e;clear c;refine mF _ _ _ _ _ λg=>?_;subst h;simp[ak, *,jh,cK]
 rw[show xM k m=m from if_neg h]at c;have e:=NB (Q:=Q) a ⟨l,i⟩ f j c;clear c;refine mF _ _ _ _ _ λg=>?_;simp[ak, *,jh];done
theorem So{m:aD}{H:ab}(h:H.get r1=some (m.bu z))(l:H.get r2=some ⟨12,[(aM 0).val a9],false,false⟩)(c : ∀H',Q ((vM k (wQ k (xM k (Ke k m)))).val (if k=2\/k=8 then a9 else z)) H') :
 bL env Tryz.f78 0 gE [(2,.ptr r2 0 0),(1,.ptr r1 0 0),(3,a8 k)] H Q:=by
 have f:=a.symm;have n:(H.get r1).isSome=true:=by rw[h];rfl
 obtain⟨i,j⟩:=b;by_cases e:k=3\/k=8;·rw[show Ke k m = { m with fromN:=0} from if_pos e]at c;have d:=NC (Q:=Q) a ⟨i,j⟩ (m := { m with fromN:=0}) (H:=H.put r1 (some (({ m with fromN:=0}:aD).bu z))) (by rw[ab.get_put,if_pos rfl]) (by rw[ab.get_put,if_neg f];exact l) c;unfold aD.bu at h d;clear c;refine nm _ _ _ _ _ λg=>?_;rcases e with rfl | rfl<;>simp[ak, *,jB,cK]
 rw[show Ke k m=m from if_neg e]at c;have d:=NC (Q:=Q) a ⟨i,j⟩ h l c;simp only[not_or]at e;obtain⟨o,k1⟩:=e;clear c;refine nm _ _ _ _ _ λg=>?_;simp[ak, *,jB];done
theorem Sp{m:aD}{H:ab}(h:H.get r1=some (m.bu z))(l:H.get r2=some ⟨12,[(aM 0).val a9],false,false⟩)(c : ∀H',Q ((vM k (wQ k (xM k (Ke k (L0 k m))))).val (if k=2\/k=8 then a9 else z)) H') :
 bL env Tryz.f78 0 gG [(2,.ptr r2 0 0),(1,.ptr r1 0 0),(3,a8 k)] H Q:=by
 have f:=a.symm;have n:(H.get r1).isSome=true:=by rw[h];rfl
 obtain⟨i,j⟩:=b;by_cases e:k=6\/k=7\/k=10;·rw[show L0 k m = { m with code:=0} from if_pos e]at c;have d:=So (Q:=Q) a ⟨i,j⟩ (m := { m with code:=0}) (H:=H.put r1 (some (({ m with code:=0}:aD).bu z))) (by rw[ab.get_put,if_pos rfl]) (by rw[ab.get_put,if_neg f];exact l) c;unfold aD.bu at h d;clear c;refine nn _ _ _ _ _ λg=>?_;rcases e with rfl | rfl | rfl<;>simp[ak, *,jC,cK]
 rw[show L0 k m=m from if_neg e]at c;have d:=So (Q:=Q) a ⟨i,j⟩ h l c;simp only[not_or]at e;obtain⟨p,k1,o⟩:=e;clear c;refine nn _ _ _ _ _ λg=>?_;simp[ak, *,jC];done
theorem XM{m:aD}{H:ab}(f:H.get r1=some (m.bu z))(j:H.get r2=some ⟨12,[(aM 0).val a9],false,false⟩)(c : ∀H',Q ((vM k (wQ k (xM k (Ke k (L0 k (ND k m)))))).val (if k=2\/k=8 then a9 else z)) H') :
 bL env Tryz.f78 0 gH [(2,.ptr r2 0 0),(1,.ptr r1 0 0),(3,a8 k)] H Q:=by
 have d:=a.symm;have n:(H.get r1).isSome=true:=by rw[f];rfl
 obtain⟨l,i⟩:=b;by_cases h:k=7;·rw[show ND k m = { m with serial:=0} from if_pos h]at c;have e:=Sp (Q:=Q) a ⟨l,i⟩ (m := { m with serial:=0}) (H:=H.put r1 (some (({ m with serial:=0}:aD).bu z))) (by rw[ab.get_put,if_pos rfl]) (by rw[ab.get_put,if_neg d];exact j) c;unfold aD.bu at f e;clear c;refine np _ _ _ _ _ λg=>?_;subst h;simp[ak, *,jD,cK]
 rw[show ND k m=m from if_neg h]at c;have e:=Sp (Q:=Q) a ⟨l,i⟩ f j c;clear c;refine np _ _ _ _ _ λg=>?_;simp[ak, *,jD];done
end
def sR(k:UInt8)(m:aD):aD:=(vM k (wQ k (xM k (Ke k (L0 k (ND k m))))))
def oJ(m:aD):aD:=sR m.kind (if m.kind=1 then { m with user:=0} else m)
def AO(k:UInt8)(x:AV):AV:=if k=2\/k=8 then a9 else x
def Ob{x:AV}{es:List AV}(n:Sl 17 es x)(m:aD):aK env 78 [m.val x]=some ((oJ m).val (AO m.kind x)):=by
 refine M5 (fn:=Tryz.f78) (c:=bR) rfl (by kernel_rfl) (by kernel_rfl) (by kernel_rfl) (by kernel_rfl) ?_;refine tW _ _ _ λg=>?_;have j:=n.r;have e : ∀(H:ab),handed env 78 ((oJ m).val (AO m.kind x)) H ((oJ m).val (AO m.kind x)):=by
  intro H;unfold aD.val AO;split<;>simp[j]
 unfold oJ at e ⊢;have i:=λ(l:aD) H h1 h2 h=>XM (k:=m.kind) (r1:=⟨0,1,0,0⟩) (r2:=⟨0,2,0,0⟩) (by decide) (z:=x) ⟨j.2.2.2.1,j.2.2.2.2.1⟩ (Q:=λv H=>handed env 78 v H ((sR m.kind l).val (AO m.kind x))) (m:=l) (H:=H) h1 h2 h;by_cases f:m.kind=1;·rw[if_pos f]at e ⊢;have d:=i { m with user:=0} [(⟨0,2,0,0⟩,some ⟨12,[(aM 0).val a9],false,false⟩),(⟨0,1,0,0⟩,some (({ m with user:=0}:aD).bu x))] rfl rfl e;clear i e;generalize sR m.kind { m with user:=0}=mm at *;unfold aD.bu at d;unfold aD.val at d ⊢;simp only[aM]at d;simp[ak, *,kO,cK,f];simp only[f]at d;exact d
 rw[if_neg f]at e ⊢;have d:=i m [(⟨0,2,0,0⟩,some ⟨12,[(aM 0).val a9],false,false⟩),(⟨0,1,0,0⟩,some (m.bu x))] rfl rfl e;clear i e;generalize sR m.kind m=mm at *;unfold aD.bu at d;unfold aD.val at d ⊢;simp only[aM]at d;simp[ak, *,kO,cK,f];exact d
end
section
attribute [local simp] a7 aL au aJ aH bF kV bc aA aN cw cu aY ba ah bG fG
def YT(f:Nat):AV := .fn (.func f) [] []
def Fw(k:Nat)(d m:Nat):AV := .tup [.v (.int .u8 k),.agg [YT d,YT m]]
def zm:List AV:=[Fw 1 64 62,Fw 2 66 68,Fw 3 70 62,Fw 4 71 63,Fw 5 72 62,
 Fw 6 73 62,Fw 7 74 75,Fw 8 76 62,Fw 9 77 63,Fw 10 73 62]
def MG:aK env 36 []=some (.fsl 0 (.v (.bool true) :: zm) none):=Cq (n:=100000) (by kernel_rfl)
def Hw:List Value:=[.int .u8 1,.int .u8 2,.int .u8 3,.int .u8 4,.int .u8 5,.int .u8 6,.int .u8 7,.int .u8 8,.int .u8 9,.int .u8 10]
def aas:zm.mapM BN=some Hw:=by kernel_rfl
def MD:Option (Option Nat)->Option (Option Nat)->Bool
 | none,none=>true
 | some none,some none=>true
 | some (some a),some (some b)=>Nat.beq a b
 | _,_=>false
def Qe{a b:Option (Option Nat)}(h:MD a b=true):a=b:=by
 rcases a with _ | _ | a<;>rcases b with _ | _ | b<;>first | rfl | (simp[MD]at h;done) | (simp[MD]at h;subst h;rfl)
def RU:((List.range 256).all λn=>MD (vD env.P false 5 (.int .u8 n) Hw) (some (kE n)))=true:=by kernel_rfl
def Xw(k:UInt8):vD env.P false 5 (.int .u8 (k.toNat:Nat)) Hw=some (kE k.toNat):=
 Qe (eC.1 RU k.toNat (sE.2 k.toNat_lt))
def Ew(n:Nat):AV:=match kE n with
 | some i=>(zm[i]?.bind zo).getD a9
 | none => .agg [.v .nilFunc,.v .nilFunc]
def Qh(g:cb)(r:Ref)(k:UInt8)(h:g r=some ⟨0,.v (.bool true) :: zm,false,false⟩):jQ env.P g 92 (some (.mp r)) (some (a8 k)) true=some (.tup [Ew k.toNat,aB (kE k.toNat).isSome],[]):=by
 have b:Ix env.P 92=some (5,90):=by kernel_rfl
 have f:kA g r=some zm:=by simp only[kA,h]
 have e:(some (a8 k)).bind ir=some (.int .u8 (k.toNat:Nat)):=rfl;unfold jQ;rw[b,e];simp only[f,aas];rw[show Hw.isEmpty=false from rfl,Xw];unfold Ew;cases a:kE k.toNat with
 | none=>have d:eJ env.P 90=some (.agg [.v .nilFunc,.v .nilFunc]):=(by kernel_rfl);simp only[d,Option.map_some,if_true];rfl
 | some i=>
  have hi:i<10:=by
   unfold kE at a;split at a;·cases a
   split at a;·cases a;omega
   cases a
  have:zm[i]?.bind zo=some ((zm[i]?.bind zo).getD a9):=by
   match i,hi with
   | 0,_=>rfl
   | 1,_=>rfl
   | 2,_=>rfl
   | 3,_=>rfl
   | 4,_=>rfl
   | 5,_=>rfl
   | 6,_=>rfl
   | 7,_=>rfl
   | 8,_=>rfl
   | 9,_=>rfl
  simp only[if_true];rw[this];rfl
section
variable(m:aD){xo:AV}{ol:List (bp × AV)}(c:Sl 17 (a6 ol) xo)
include c
theorem yf:aK env 62 [m.val xo]=some (aB true):=by
 refine bo rfl (by kernel_rfl) (CG _ _ _ λg=>?_);unfold aD.val;simp[ak, *,wL,c.r]
theorem Jd:aK env 63 [m.val xo]=some (aB (decide (m.asked=1)||decide (m.asked=2))):=by
 refine bo rfl (by kernel_rfl) (CF _ _ _ λg=>?_);unfold aD.val;simp[ak, *,wK,c.r];repeat' ((first | apply Cy<;>intro h | apply xG<;>intro h | apply xH<;>intro h | apply xE<;>intro h | apply xF<;>intro h)<;>(try simp only[iQb,iQd,jH,zJ,bD,lI]at h)<;>(try simp[ak, *]))
theorem Lu:aK env 75 [m.val xo]=some (aB (decide (0<m.serial))):=by
 refine bo rfl (by kernel_rfl) (CD _ _ _ λg=>?_);unfold aD.val;simp[ak, *,wI,c.r]
theorem OK{p:bp × AV}(y:ol=[p])(hp:uS p):aK env 68 [m.val xo]=some (aB (!decide (-1∈p.1.l))):=by
 subst y;refine bo rfl (by kernel_rfl) (CE _ _ _ λg=>?_);obtain⟨⟨n,⟨t,o,k⟩,w,⟨⟨⟨s,u,q⟩,x⟩,b⟩,⟨⟨h,d,j⟩,e⟩,⟨f,i⟩,B⟩,A⟩:=p;obtain⟨a,v⟩:=hp;simp only at a v;have z:=N9 n t o k w s u q x b h d j e f i a (by omega);unfold aD.val;simp[ak, *,wJ,c.r,c.idx,a6,kJ,a.r]
end
end
section
attribute [local simp] a7 aL au aJ aH bF kV bc aA aN cw cu aY ba ah bG fG
attribute [local simp] wz
def N5{p q:bp × AV}(hp:uS p)(W:uS q):aK env 43 [kJ p,kJ q]=some (aB (qx p.1 q.1)):=by
 obtain⟨⟨N,⟨L,P,M⟩,F,⟨⟨⟨I,R,Q⟩,U⟩,t⟩,⟨⟨s,v,D⟩,g⟩,⟨A,C⟩,al⟩,Z⟩:=p;obtain⟨⟨H,⟨J,S,O⟩,E,⟨⟨⟨G,T,V⟩,K⟩,z⟩,⟨⟨d,n,B⟩,c⟩,⟨e,k⟩,bl⟩,Y⟩:=q;have h:=hp.2;have X:=W.2;simp only at h X;exact N6 N L P M F I R Q U t s v D g A C H J S O E G T V K z d n B c e k hp.1 W.1 (by omega) (by omega)
section
variable{x y:AV}{l m:List (bp × AV)}(f:Sl 17 (a6 l) x)(u:Sl 17 (a6 m) y)(w:l.length<100000)(j : ∀p∈l,uS p)(i : ∀p∈m,uS p)(a b:aD)
include f u w j i
theorem Ht{r2 r3:Ref}{Q:AV->ab->Prop}(hlen:l.length=m.length) :
 ∀(s t:List (bp × AV)) (k:Nat) (H:ab),l.drop k=s->m.drop k=t->k<=l.length->H.get r2=some (a.bu x)->H.get r3=some (b.bu y)->Q (aB (dx s t&&nO a b)) H ->
 bL env Tryz.f12 0 gC [(5,aI k),(3,.ptr r3 0 0),(2,.ptr r2 0 0)] H Q:=by
 intro s;induction s with
 | nil=>
  intro t k H hs ht hk h2 h3 c;obtain rfl:=drop_nil hs hk;have et:t=[]:=by rw[<-ht,hlen];exact Dk
  subst et;have hr:=f.len;have e0:(dx ([]:List (bp × AV)) []&&nO a b)=nO a b:=by simp[dx]
  rw[e0]at c;obtain⟨O,M,C,N,U,J,S,R,V,d,n⟩:=a;obtain⟨B,K,T,P,I,A,F,G,L,v,e⟩:=b;unfold nO at c;unfold aD.bu at h2 h3;clear e0;refine nx _ _ _ _ _ λg=>?_;cases c1:decide (O=B) with
  | false=>simp[ak, *,bg,mj,eZ,mi];simpa [c1] using c
  | true=>
  cases D:decide (M=K) with| false=>simp[ak, *,bg,mj,eZ,mi];simpa [c1,D] using c| true=>
  cases W:decide (C=T) with| false=>simp[ak, *,bg,mj,eZ,mi];simpa [c1,D,W] using c| true=>
  cases c4:decide (N=P) with| false=>simp[ak, *,bg,mj,eZ,mi];simpa [c1,D,W,c4] using c| true=>
  cases c5:decide (U=I) with| false=>simp[ak, *,bg,mj,eZ,mi];simpa [c1,D,W,c4,c5] using c| true=>
  cases c6:decide (J=A) with| false=>simp[ak, *,bg,mj,eZ,mi];simpa [c1,D,W,c4,c5,c6] using c| true=>
  cases c7:decide (S=F) with| false=>simp[ak, *,bg,mj,eZ,mi];simpa [c1,D,W,c4,c5,c6,c7] using c| true=>
  rw[c1,D,W,c4,c5,c6,c7]at c;simp only[kX]at c;cases c8:(decide (R=G)&&(decide (V=L)&&(decide (d=v)&&decide (n=e)))) with
  | false=>rw[c8]at c;simp[ak, *,bg,mj,eZ,mi]
  | true=>rw[c8]at c;simp[ak, *,bg,mj,eZ,mi]
 | cons p s ih=>
  intro t k H hs ht hk h2 h3 c;obtain⟨hlt,hg,hs',hg'⟩:=drop_cons hs;have hlt2:k<m.length:=by omega
  obtain⟨q,t',rfl⟩ : ∃q t',t=q :: t':=by
   cases t with| nil=>exact absurd ht (by intro h;have:=iQh List.length h;simp at this;omega)| cons q t'=>exact⟨q,t',rfl⟩
  obtain⟨_,hg2,ht',hg2'⟩:=drop_cons ht;have hp:=j p (hg ▸ kq _);have hq:=i q (hg2 ▸ kq _);have E:=N5 hp hq;have e3:=iQa ((k:Int)+1) (by omega);have z:=ih t' (k+1) H hs' ht' (by omega) h2 h3;rw[show((k+1:Nat):Int)=(k:Int)+1 from by omega]at z;rw[show(dx (p :: s) (q :: t')&&nO a b)=(qx p.1 q.1&&(dx s t'&&nO a b)) from by simp[dx,Bool.and_assoc]]at c;have hpr:=hp.1.r;have hqr:=hq.1.r;have hr:=f.len;have hltI:(k:Int)<l.length:=by omega
  clear ih hp hq j i;obtain⟨⟨O,⟨M,C,N⟩,U,⟨⟨⟨J,S,R⟩,V⟩,d⟩,⟨⟨n,a_12,a_13⟩,a_14⟩,⟨Z,a_16⟩,al⟩,xa⟩:=p;obtain⟨⟨B,⟨K,T,P⟩,I,⟨⟨⟨A,F,G⟩,L⟩,v⟩,⟨⟨e,b_12,b_13⟩,b_14⟩,⟨X,Y⟩,bl⟩,xb⟩:=q;simp only[kJ]at E;unfold aD.bu at h2 h3;generalize (dx s t'&&nO a b)=rest at *;refine nx _ _ _ _ _ λg=>?_;cases hv:qx (⟨O,⟨M,C,N⟩,U,⟨⟨⟨J,S,R⟩,V⟩,d⟩,⟨⟨n,a_12,a_13⟩,a_14⟩,⟨Z,a_16⟩,al⟩:bp) (⟨B,⟨K,T,P⟩,I,⟨⟨⟨A,F,G⟩,L⟩,v⟩,⟨⟨e,b_12,b_13⟩,b_14⟩,⟨X,Y⟩,bl⟩:bp) with
  | false=>rw[hv]at E c;simp only[tO]at c;clear z hv;simp[ak, *,bg,f.idx,u.idx,a6,kJ];done
  | true=>rw[hv]at E c;simp only[kX]at c;replace z:=z c;clear hv;simp[ak, *,bg,f.idx,u.idx,a6,kJ];done
theorem uj:aK env 12 [a.val x,b.val y]=some (aB (dx l m&&nO a b)):=by
 refine bo rfl (by kernel_rfl) (tY _ _ _ _ λg=>?_);have n:=f.r;have q:=u.r;by_cases c:l.length=m.length
 ·have k:=Ht f u w j i a b c (r2:=⟨0,2,0,0⟩) (r3:=⟨0,3,0,0⟩) (Q:=λv H=>handed env 12 v H (aB (dx l m&&nO a b))) l m 0 [(⟨0,3,0,0⟩,some (b.bu y)),(⟨0,2,0,0⟩,some (a.bu x))] rfl rfl (by omega) rfl rfl (by simp);unfold aD.val;unfold aD.bu at k;have d:(m.length:Int)=l.length:=by omega
  clear j i;generalize (dx l m&&nO a b)=rest at *;simp[ak, *,kP];exact k
 have e:dx l m=false:=by
  cases h:dx l m with| false=>rfl| true=>exact absurd (by simpa using iQh List.length (xX h)) c
 have d : ¬(l.length:Int)=m.length:=(by omega);rw[e,tO];unfold aD.val;clear j i;simp[ak, *,kP]
end
def mX(n:Int):Bool:=decide (0<=n)&&decide (n<16777216)
def og(n:Int):aK env 79 [aI n]=some (aB (mX n)):=by
 refine bo rfl (by kernel_rfl) (sZ _ _ _ λg=>?_);unfold mX;by_cases h:0<=n;·simp[ak, *,j8,h]
 simp[ak, *,j8,h]
def Oa(a b c d:Int):aK env 80 [.agg [aI a,aI b,aI c,aI d]]=some (aB (mX a&&(mX b&&(mX c&&mX d)))):=by
 refine bo rfl (by kernel_rfl) (tU _ _ _ λg=>?_);have k:=og a;have n:=og b;have h:=og c;have e:=og d;generalize mX a=p at *;generalize mX b=q at *;generalize mX c=r at *;generalize mX d=s at *;cases p<;>cases q<;>cases r<;>simp[ak, *,oK]
def qS(l:List (bp × AV)):Bool:=l.all λp=>my p.1
def Qo{p:bp × AV}(hp:uS p)(o : ∀a∈p.1.l, -2147483648<=a/\a<=2147483647):aK env 96 [kJ p]=some (aB (my p.1)):=by
 obtain⟨⟨s,⟨A,t,q⟩,C,⟨⟨⟨z,B,v⟩,D⟩,c⟩,⟨⟨h,d,n⟩,e⟩,⟨g,k⟩,F⟩,E⟩:=p;exact CQ s A t q C z B v D c h d n e g k hp.1 hp.2 o
section
variable{x:AV}{l:List (bp × AV)}(f:Sl 17 (a6 l) x)(w:l.length<100000)(j : ∀p∈l,uS p)(o : ∀p∈l,∀a∈p.1.l, -2147483648<=a/\a<=2147483647)
include f w j o
theorem Jh(c:Int){Q:AV->ab->Prop}{H:ab} : ∀(s:List (bp × AV)) (k:Nat),l.drop k=s->k<=l.length->Q (aB (decide ((l.length:Int)<=c)&&(!decide ((l.length:Int)<=c)||qS s))) H ->
 bL env Tryz.f81 0 gX [(5,aI k),(0,x),(1,aI c)] H Q:=by
 intro s;induction s with
 | nil=>
  intro k I R e;obtain rfl:=drop_nil I R;have V:=f.len;rw[show qS ([]:List (bp × AV))=true from rfl,Gu,yv]at e;refine nM _ _ _ _ _ λg=>?_;by_cases h:(l.length:Int)<=c;·simp[ak, *,dO,h];simpa [h] using e
  simp[ak, *,dO,h];simpa [h] using e
 | cons p s T=>
  intro k I R e;obtain⟨X,Z,E,W⟩:=drop_cons I;have O:p∈l:=Z ▸ kq _;have C:=Qo (j p O) (o p O);have hp:=j p O;have V:=f.len;have S:(k:Int)<l.length:=by omega
  have e3:=iQa ((k:Int)+1) (by omega);have d:=T (k+1) E (by omega);rw[show((k+1:Nat):Int)=(k:Int)+1 from by omega]at d;have U:=hp.1.r;rw[show qS (p :: s)=(my p.1&&qS s) from rfl]at e;clear T j o hp;obtain⟨⟨K,⟨G,L,J⟩,D,⟨⟨⟨F,N,M⟩,P⟩,t⟩,⟨⟨q,v,B⟩,n⟩,⟨z,A⟩,Y⟩,xa⟩:=p;simp only[kJ]at C;refine nM _ _ _ _ _ λg=>?_;by_cases h:(l.length:Int)<=c
  ·cases i:my (⟨K,⟨G,L,J⟩,D,⟨⟨⟨F,N,M⟩,P⟩,t⟩,⟨⟨q,v,B⟩,n⟩,⟨z,A⟩,Y⟩:bp) with| false=>rw[i]at C;simp only[i,h,iQv,tO,tN,vY,sV,vZ]at e;clear d i;simp[ak, *,dO,f.idx,a6,kJ];done| true=>rw[i]at C;simp only[i,h,iQv,kX,tN,nk]at e;simp only[h,iQv,kX,tN,nk]at d;replace d:=d e;clear i;simp[ak, *,dO,f.idx,a6,kJ];done
  simp only[h,iQV,tO]at e;clear d C;simp[ak, *,dO,f.idx,a6,kJ];done
theorem Qy(c:Int):aK env 81 [x,aI c]=some (aB (decide ((l.length:Int)<=c)&&(!decide ((l.length:Int)<=c)||qS l))):=by
 refine bo rfl (by kernel_rfl) (uZ _ _ _ _ λg=>?_);have d:=Jh f w j o c (Q:=λv H=>handed env 81 v H (aB (decide ((l.length:Int)<=c)&&(!decide ((l.length:Int)<=c)||qS l)))) (H:=[]) l 0 rfl (by omega) (by simp);unfold pf;exact d
end
end
section
structure su (n:Nat) (d mf:Nat):Prop where
 v:Ew n = .agg [YT d,YT mf]
 md:(env.mode d == 2)=true
 mm:(env.mode mf == 2)=false
 mm3:(env.mode mf == 3)=false
 rd : ∀ {H:ab} {r rm:Ref} {st:AY},C1 H r rm st->(∀l m ol,st=some (l,m,ol)->ol=[]) ->∃y H',cU env 0 (.fn d) [.ptr r 0 0,.ptr rm 0 0] H=some (y,H')/\J9 H H' r rm (qC n st)
 wr : ∀ {H:ab} {r rm:Ref} {bs:List UInt8} {m:aD} {xo:AV} {ol:List (bp × AV)},MW H r rm bs false (m.bu xo)->bs.length<1000->Sl 17 (a6 ol) xo->(∀p∈ol,uS p)->ol.length<=10->(n=2->ol.length=1) ->
  ∃y H',cU env 0 (.fn d) [.ptr r 0 0,.ptr rm 0 0] H=some (y,H') /\∃bs',Kf H H' r rm bs' (eK n m ol).2 (m.bu xo)/\((eK n m ol).2=false->bs'=bs++(eK n m ol).1)
 may : ∀(m:aD){xo:AV}{ol:List (bp × AV)},Sl 17 (a6 ol) xo->(∀p∈ol,uS p)->(n=2->ol.length=1)->aK env mf [m.val xo]=some (aB (jV n m ol))
def Xb:su 1 64 62:=by
 refine⟨rfl,by kernel_rfl,by kernel_rfl,by kernel_rfl,λa _=>TQ 0 a,λ{H r rm bs m xo ol} a hf hx ha h1 h2=>?_,λm {xo ol} hx _ _=>yf m hx⟩;obtain⟨y,H',c,b⟩:=UE 0 a (by omega);rw[nk]at b;exact⟨y,H',c,_,b,λ_=>rfl⟩
def Xa:su 2 66 68:=by
 refine⟨rfl,by kernel_rfl,by kernel_rfl,by kernel_rfl,λa c=>Ol 0 a c,λ{H r rm bs m xo ol} a hf hx ha h1 h2=>?_,λm {xo ol} hx ha h2=>?_⟩;·obtain⟨y,H',d,b⟩:=O6 0 a hx ha (h2 rfl) (by omega);rw[nk]at b;exact⟨y,H',d,_,b,λ_=>rfl⟩
 obtain⟨p,hp⟩:=Kr.1 (h2 rfl);have h:=OK m hx hp (ha p (by rw[hp];exact l7.2 rfl));subst hp;exact h
def W9:su 3 70 62:=by
 refine⟨rfl,by kernel_rfl,by kernel_rfl,by kernel_rfl,λa _=>TO 0 a,λ{H r rm bs m xo ol} a hf hx ha h1 h2=>?_,λm {xo ol} hx _ _=>yf m hx⟩;obtain⟨y,H',c,b⟩:=UC 0 a (by omega);rw[nk]at b;exact⟨y,H',c,_,b,λ_=>rfl⟩
def W8:su 4 71 63:=by
 refine⟨rfl,by kernel_rfl,by kernel_rfl,by kernel_rfl,λa _=>IV 0 a,λ{H r rm bs m xo ol} a hf hx ha h1 h2=>?_,λm {xo ol} hx _ _=>Jd m hx⟩;obtain⟨y,H',c,b⟩:=JQ 0 a (by omega);exact⟨y,H',c,_,b,λ_=>rfl⟩
def W7:su 5 72 62:=by
 refine⟨rfl,by kernel_rfl,by kernel_rfl,by kernel_rfl,λa _=>QJ 0 a,λ{H r rm bs m xo ol} a hf hx ha h1 h2=>?_,λm {xo ol} hx _ _=>yf m hx⟩;obtain⟨y,H',c,b⟩:=R6 0 a (by omega);exact⟨y,H',c,_,b,λ_=>(mz _).symm⟩
def W6:su 6 73 62:=by
 refine⟨rfl,by kernel_rfl,by kernel_rfl,by kernel_rfl,λa _=>Hb 0 a,λ{H r rm bs m xo ol} a hf hx ha h1 h2=>?_,λm {xo ol} hx _ _=>yf m hx⟩;obtain⟨y,H',c,b⟩:=HD 0 a (by omega);rw[nk]at b;exact⟨y,H',c,_,b,λ_=>rfl⟩
def W5:su 7 74 75:=by
 refine⟨rfl,by kernel_rfl,by kernel_rfl,by kernel_rfl,λa _=>Om 0 a,λ{H r rm bs m xo ol} a hf hx ha h1 h2=>?_,λm {xo ol} hx _ _=>Lu m hx⟩;obtain⟨y,H',c,b⟩:=O7 0 a (by omega) (by omega);rw[nk]at b;exact⟨y,H',c,_,b,λ_=>rfl⟩
def W4:su 8 76 62:=by
 refine⟨rfl,by kernel_rfl,by kernel_rfl,by kernel_rfl,λa b=>TP 0 a b,λ{H r rm bs m xo ol} a hf hx ha h1 h2=>?_,λm {xo ol} hx _ _=>yf m hx⟩;exact UD 0 a hx ha h1 (by omega)
def W3:su 9 77 63:=by
 refine⟨rfl,by kernel_rfl,by kernel_rfl,by kernel_rfl,λa _=>QI 0 a,λ{H r rm bs m xo ol} a hf hx ha h1 h2=>?_,λm {xo ol} hx _ _=>Jd m hx⟩;obtain⟨y,H',c,b⟩:=R5 0 a (by omega);rw[nk]at b;exact⟨y,H',c,_,b,λ_=>rfl⟩
def Ui:su 10 73 62:=by
 refine⟨rfl,by kernel_rfl,by kernel_rfl,by kernel_rfl,λa _=>Hb 0 a,λ{H r rm bs m xo ol} a hf hx ha h1 h2=>?_,λm {xo ol} hx _ _=>yf m hx⟩;obtain⟨y,H',c,b⟩:=HD 0 a (by omega);rw[nk]at b;exact⟨y,H',c,_,b,λ_=>rfl⟩
def M6{n:Nat}(h:(kE n).isSome=true) : ∃d a,su n d a:=by
 have:n=1\/n=2\/n=3\/n=4\/n=5\/n=6\/n=7\/n=8\/n=9\/n=10:=by
  unfold kE at h;split at h;·cases h
  split at h;·omega
  cases h
 rcases this with rfl | rfl | rfl | rfl | rfl | rfl | rfl | rfl | rfl | rfl
 ·exact⟨_,_,Xb⟩
 ·exact⟨_,_,Xa⟩
 ·exact⟨_,_,W9⟩
 ·exact⟨_,_,W8⟩
 ·exact⟨_,_,W7⟩
 ·exact⟨_,_,W6⟩
 ·exact⟨_,_,W5⟩
 ·exact⟨_,_,W4⟩
 ·exact⟨_,_,W3⟩
 exact⟨_,_,Ui⟩
end
section
attribute [local simp] a7 aL au aJ aH bF kV bc aA aN cw cu aY ba ah bG fG
attribute [local simp] wz
def uQ(k:UInt8)(l:List (bp × AV)):List (bp × AV):=if k=2\/k=8 then [] else l
def J3{x:AV}{l:List (bp × AV)}(b:Sl 17 (a6 l) x)(k:UInt8):Sl 17 (a6 (uQ k l)) (AO k x):=by
 unfold uQ AO;split;·exact .inl ⟨rfl,rfl⟩
 exact b
def rZ(l:List (bp × AV)):Bool:=match l with
 | [p] => !decide (-1∈p.1.l)
 | _=>false
def AP(m:aD)(l:List (bp × AV)):Bool:=dx (uQ m.kind l) []&&nO (oJ m) (aM m.kind)
def G9(m:aD)(l:List (bp × AV)):Bool:=decide (0<=m.user)&&(decide (m.user<=255)&&(mX m.serial&&(decide (0<=m.code)&&(decide (m.code<65536)&&(mX m.fromN&&(mX m.total &&
 ((mX m.t0&&(mX m.t1&&(mX m.t2&&mX m.t3)))&&(decide ((l.length:Int)<=3)&&(!decide ((l.length:Int)<=3)||qS l)))))))))
def Lz(m:aD)(l:List (bp × AV)):Bool:=if m.kind=2 then rZ l else if m.kind=4\/m.kind=9 then decide (m.asked=1)||decide (m.asked=2) else !decide (m.kind=7)||decide (0<m.serial)
def RE(m:aD)(l:List (bp × AV)):Lz m l=(if m.kind=2 then rZ l else if m.kind=4\/m.kind=9 then decide (m.asked=1)||decide (m.asked=2) else !decide (m.kind=7)||decide (0<m.serial)):=rfl
def iD(m:aD)(l:List (bp × AV)):Bool:=if 1<=m.kind/\m.kind<=10 then (AP m l&&(G9 m l&&Lz m l)) else false
def KS(n:Int)(h:0<=n)(k:n<16777216):aK env 83 [aI n]=some (.cC 1 (aQ (be 3 n)) (some 3)):=by
 refine bo rfl (by kernel_rfl) (sY _ _ _ λg=>?_);have o:=λt xo i=>jz t xo i (n:=n) 65536 (by omega) h (by omega);have s:=λt xo i=>jz t xo i (n:=n) 256 (by omega) h (by omega);have j:=λt xo i=>jy t xo i (n:=n / 256) (by omega);have q:=λt xo i=>jy t xo i (n:=n) h;rw[Sn];simp[ak, *,nV,jx,aQ]
section
variable{x:AV}{l:List (bp × AV)}(b:Sl 17 (a6 l) x)(f:l.length<100000)(d : ∀p∈l,uS p)(e : ∀p∈l,∀a∈p.1.l, -2147483648<=a/\a<=2147483647)(c : ∀p∈l,p.1.l.length<100000)(m:aD)
include b f d e c
theorem z5:aK env 37 [m.val x]=some (aB (iD m l)):=by
 have W:=uj (J3 b m.kind) (y:=a9) (m:=[]) (.inl ⟨rfl,rfl⟩) (by unfold uQ;split;exact(show 0<100000 by omega);exact f) (λp hp=>by unfold uQ at hp;split at hp;cases hp;exact d p hp) (λp hp=>by cases hp) (oJ m) (aM m.kind);have hB:=Ob b m;have hO:=Qy b f d e 3;have hT:=Oa m.t0 m.t1 m.t2 m.t3;have c1:=og m.serial;have c2:=og m.fromN;have c3:=og m.total;have hr:=b.r;have Z:=(J3 b m.kind).r;have V:=b.len;have C : ∀p,l=[p]->aK env 82 [kJ p]=some (aB (rZ l)):=by
  rintro p rfl;have hp:=d p (by simp);obtain⟨⟨H,⟨E,I,G⟩,M,⟨⟨⟨D,K,J⟩,N⟩,o⟩,⟨⟨n,s,w⟩,k⟩,⟨u,v⟩,al⟩,Y⟩:=p;exact N7 H E I G M D K J N o n s w k u v hp.1 (c _ (by simp))
 have z:(1<=m.kind/\m.kind<=10) ↔ ¬m.kind<1 /\¬10<m.kind:=by
  exact⟨λh=>⟨Gs.2 h.1,Gs.2 h.2⟩,λh=>⟨Gs.1 h.1,Gs.1 h.2⟩⟩
 replace W:aK env 12 [(oJ m).val (AO m.kind x),(aM m.kind).val a9]=some (aB (AP m l)):=W;have hK:=RE m l;refine bo rfl (by kernel_rfl) (vc _ _ _ λg=>?_);unfold iD;by_cases i:1<=m.kind/\m.kind<=10
 ·rw[if_pos i];obtain⟨k1,k2⟩:=z.1 i;clear z i;generalize AO m.kind x=bx at *;generalize AP m l=b0 at *;unfold G9;generalize mX m.serial=b1 at *;generalize mX m.fromN=b2 at *;generalize mX m.total=b3 at *;generalize (mX m.t0&&(mX m.t1&&(mX m.t2&&mX m.t3)))=b4 at *;generalize (decide ((l.length:Int)<=3)&&(!decide ((l.length:Int)<=3)||qS l))=b5 at *;generalize oJ m=bm at *;have P:=d;clear d e c;unfold aD.val aM at *;generalize m.kind=kk at *;generalize m.asked=aa at *;cases b0 with
  | false=>simp[ak, *,aw]
  | true=>
  by_cases X:0<=m.user;case neg=>
   have j:m.user<0:=(by omega)
   simp[ak, *,aw,X,j]
  by_cases Q:m.user<=255;case neg=>
   have j : ¬m.user<0:=(by omega)
   have L:255<m.user:=(by omega)
   simp[ak, *,aw,Q,j,L]
  have j : ¬m.user<0:=(by omega);have L : ¬255<m.user:=(by omega);cases b1 with
  | false=>simp[ak, *,aw]
  | true=>
  by_cases R:0<=m.code;case neg=>
   have F:m.code<0:=(by omega)
   simp[ak, *,aw,R,F]
  have F : ¬m.code<0:=(by omega);by_cases T:m.code<65536;case neg=>
   have B:65536<=m.code:=(by omega)
   simp[ak, *,aw,T,B]
  have B : ¬65536<=m.code:=(by omega);cases b2 with
  | false=>simp[ak, *,aw]
  | true=>
  cases b3 with| false=>simp[ak, *,aw]| true=>
  cases b4 with| false=>simp[ak, *,aw]| true=>
  cases b5 with| false=>simp[ak, *,aw]| true=>
  simp only[kX,iQj X,iQj Q,iQj R,iQj T];rw[hK];by_cases O:kk=2
  ·rw[if_pos O];subst O;rcases l with _ | ⟨p,_ | ⟨q,t⟩⟩
   ·simp[ak, *,aw,rZ]
   ·have hP:=C p rfl;obtain⟨⟨H,⟨E,I,G⟩,M,⟨⟨⟨D,K,J⟩,N⟩,o⟩,⟨⟨n,s,w⟩,k⟩,⟨u,v⟩,al⟩,Y⟩:=p;have hpr:=(P _ (l7.2 rfl)).1.r;simp only[kJ]at hP;clear C;generalize rZ _=pb at *;simp[ak, *,aw,b.idx,a6,kJ]
   have h1 : ¬((t.length:Int)+1+1=1):=(by omega);simp[ak, *,aw,rZ]
  rw[if_neg O];by_cases A:kk=4\/kk=9
  ·rw[if_pos A];by_cases U:aa=1;·subst U;rcases A with rfl | rfl<;>simp[ak, *,aw]
   rcases A with rfl | rfl<;>simp[ak, *,aw,U]
  rw[if_neg A];obtain⟨A,e9⟩:=not_or.1 A;by_cases S:kk=7;·subst S;simp[ak, *,aw]
  simp[ak, *,aw,S]
 rw[if_neg i];rw[z,Classical.not_and_iff_not_or_not,q9,q9]at i;clear d e c;unfold aD.val;rcases i with i | i
 ·simp[ak, *,aw]
 have h1 : ¬m.kind<1:=(by intro h;have:=UInt8.lt_trans i h;exact absurd this (by decide));simp[ak, *,aw]
end
end
section
attribute [local simp] a7 aL au aJ aH bF kV bc aA aN cw cu aY ba ah bG fG
def R7{w:bU}{P:AV->ab->Prop}(h : ∃y H',w=some (y,H')/\P y H'){K:AV->ab->Prop}{mk:Mk K}(a : ∀y H',P y H'->K y H'):jF w K mk:=by
 obtain⟨y,H',hw,hp⟩:=h;exact jd hw (a y H' hp)
def Bu(ol:List (bp × AV)) : ∀e∈bV ol,OQ e=true:=by
 intro e a;obtain⟨p,_,rfl⟩:=lX.1 a;by_cases h:rows p.1.l=[];·rw[h];rfl
 rw[rr 1 h];rfl
def KW{ol:List (bp × AV)}(h : ∀p∈ol,p.2=lV p.1.l):(bV ol).map yF=a6 ol:=by
 unfold bV a6;rw[iQU];refine iQQ λp hp=>?_;have a:=h p hp;obtain⟨o,x⟩:=p;simp only at a;subst a;show yF (.agg (jS o++[ru 1 (rows o.l)]))=kJ (o,lV o.l);rcases ze o.l with ⟨b,c⟩ | ⟨b,c⟩<;>rw[b,c]<;>rfl
def CI(ol:List (bp × AV)):AV:=if ol=[] then a9 else .nsl 17 (bV ol) none
def I6(ol:List (bp × AV)):Kd 17 (bV ol) (CI ol):=by
 unfold CI;split;·rename_i h;subst h;exact .inl ⟨rfl,rfl⟩
 rename_i h;exact .inr (.inr ⟨rfl,by simpa [bV] using h⟩)
def yd{ol:List (bp × AV)}(h : ∀p∈ol,p.2=lV p.1.l):Ce (CI ol)=opsV ol:=by
 unfold CI opsV;split;·rfl
 show AV.cC 17 ((bV ol).map yF) none=_;rw[KW h]
def CC.acY{H:ab}{xo:AV}{ol:List (bp × AV)}{rs:List Ref}(h:pn 17 H xo (bV ol) rs)(b:ol=[]->xo=a9):zi 17 xo (bV ol)=CI ol:=by
 unfold CI;rcases h with ⟨rfl,h,_⟩ | ⟨r,rfl,h,_,_⟩ | ⟨r,es,rfl,h,_,a,_,_⟩
 ·have:ol=[]:=by simpa [bV] using h
  rw[if_pos this];rfl
 ·have:=b (by simpa [bV] using h);cases this
 rw[if_neg (λe=>h (wc.1 (by rw[a.len,e];rfl)))];rfl
def Jg{f:FuncId}(b:bF.contains f=true){H:ab}{s:AV}{es':List AV}{rs:List Ref}(h:pn 17 H s es' rs)(m:aD)(e:Int):handed env f (.tup [m.val s,aI e]) H (.tup [m.val (zi 17 s es'),aI e]):=by
 obtain⟨a,i,c,g⟩:=h.out 3;have d:=h.nodup;rw[CW b];unfold aD.val;simp[a,c,d]
def Aq:Option (aD × List (bp × AV))->AV
 | some (m,ol) => .tup [m.val (CI ol),aI 0]
 | none => .tup [(aM 0).val a9,aI 90]
def FN{b:List UInt8}{x:AV}(I:Sl 1 (aQ b) x)(hl:b.length<1000000):aK env 9 [x]=some (Aq (getM b)):=by
 refine bo rfl (by kernel_rfl) (It _ _ _ λg=>?_);have hk:=MG;cases b with
 | nil=>unfold getM Aq aD.val aM;simp[ak, *,sT,I.r]
 | cons k l=>
  have u:=λ(g:cb)(r:Ref)=>Qh g r k;have D:=λg=>vo (P:=env.P) (t:=27) (z:=1) (by kernel_rfl) g I (n:=(1:Int)) (by omega) (by simp;omega);have hz : ¬((l.length:Int)+1=0):=by omega
  simp only[lZ]at hl;have him : ∀(r:Ref)(es:List AV),ae r 8 (.fsl 0 es none) []=(.mp { r with k:=0},[⟨0,es,false,false⟩]):=λr es=>rfl;cases A:kE k.toNat with
  | none=>
   have e:getM (k :: l)=none:=(by show(match qC k.toNat (some (l,aM k,[]))with | some (F,m,ol)=>_ | none=>none)=none;rw[zl A]);have O:Ew k.toNat = .agg [.v .nilFunc,.v .nilFunc]:=by unfold Ew;rw[A]
   rw[A,O]at u;clear O A D;rw[e];unfold Aq aD.val aM;simp[ak, *,sT,I.r,I.idx];rfl
  | some i=>
   obtain⟨d,mf,K⟩:=M6 (n:=k.toNat) (by rw[A];rfl);rw[A,K.v]at u;have hT:=bY (f:=d) K.md;have hmm:=K.mm;have Z:=K.mm3;obtain⟨y1,G,j⟩:=D (ab.get []);have R : ∀n,(aQ (k :: l)).drop n=aQ ((k :: l).drop n):=λn=>by simp[aQ]
   unfold YT at u;have ho1:(AV.fn (.func d) [] []).one=true:=rfl;have ho2:(AV.fn (.func mf) [] []).one=true:=rfl;have ho0:(AV.v Value.nilFunc).one=true:=rfl;simp[ak, *,sT,I.r,I.idx];obtain⟨y1,G,j⟩:=D _;refine EN G ?_;rw[R]at j;simp only[show(1:Int).toNat=1 from rfl,iQP,uW]at j;have hyr:=j.r;clear G D R;simp[ak, *];refine R7 (K.rd (r:=⟨0,29,0,0⟩) (rm:=⟨0,2,0,0⟩) (st:=some (l,aM k,[])) ⟨⟨y1,⟨rfl,j,by omega⟩⟩,⟨a9,rfl,⟨[],.inl ⟨rfl,rfl,rfl⟩,by simp,λ_=>rfl,λ_ _ e=>by cases e⟩⟩,by simp(maxDischargeDepth:=12) [SJ, *],by decide,by decide,by decide⟩ (λ_ _ _ e=>by cases e;rfl)) λy J C=>?_;have hbox:=C.old ⟨0,4,0,0⟩ _ (by decide) (by decide) (by decide) rfl;have S:=C.mr;clear C;cases a:qC k.toNat (some (l,aM k,[])) with
   | none=>
    have e:getM (k :: l)=none:=(by show(match qC k.toNat (some (l,aM k,[]))with | some (F,m,ol)=>_ | none=>none)=none;rw[a]);rw[a]at S;obtain⟨F,m',ol',⟨xb,⟨box,sl,few⟩⟩,⟨xo,mail,ops⟩,hF,U,s1,s2⟩:=S;rw[e];have lb:(J.get ⟨0,2,0,0⟩).isSome=true:=by rw[mail];rfl
    unfold Aq aD.val aM;unfold aD.bu at mail;clear ops sl j;simp[ak, *]
   | some s=>
    obtain⟨F,m,ol⟩:=s;rw[a]at S;obtain⟨b1,b2,b3,b4,Y,b6,b7⟩:=F7 a;obtain⟨⟨xb,⟨box,sl,few⟩⟩,⟨xo,mail,ops⟩,hF,U,s1,s2⟩:=(S:MR _ _ _ F false m ol);have B : ∀p∈ol,uS p:=λp hp=>by
     obtain⟨c1,c2⟩:=b2 p hp;refine⟨by rw[c2];exact qe _,?_⟩;rcases(lT c1)with ⟨_,_,_,_,h64,⟨_,_,_,h,_⟩ | ⟨_,_,_,h⟩ | ⟨_,_,h,_⟩⟩
     ·omega
     ·rw[h];simp
     rw[h];simp
    have c:=K.may m (Ah ol) B b4;have hsr:=sl.r;have lb:(J.get ⟨0,2,0,0⟩).isSome=true:=by rw[mail];rfl
    by_cases H:F=[]
    ·subst H;have e:getM (k :: l)=if jV k.toNat m ol then some (m,ol) else none:=by
      show(match qC k.toNat (some (l,aM k,[]))with | some (F,m,ol)=>_ | none=>none)=_;rw[a];simp only[if_true]
     obtain⟨rs,C,ht,Q,M⟩:=ops;have o : ∀p∈ol,p.2=lV p.1.l:=λp hp=>(b2 p hp).2;have w:=CC.acY C Q;have N:(⟨0,2,0,0⟩:Ref) ∉ rs:=λh=>by rcases ht _ h with e | e<;>cases e
     have hvx : ∀n,view J.get (n+3) xo=some (opsV ol):=λn=>by rw[(C.out n).2.1,w,yd o]
     have hvy : ∀n b,view (J.put ⟨0,2,0,0⟩ b).get (n+3) xo=some (opsV ol):=λn b=>by
      have X:pn 17 (J.put ⟨0,2,0,0⟩ b) xo (bV ol) rs:=C.bF λq T b' V=>by rw[ab.get_put,if_neg (λe=>N (by rw[<-e];exact T))];exact V
      rw[(X.out n).2.1,w,yd o]
     have hxo:xo.one=true:=by rcases C with ⟨rfl,_⟩ | ⟨q,rfl,_⟩ | ⟨q,es,rfl,_⟩<;>rfl
     have E : ∀W:ab,(∀q∈rs,∀b,J.get q=some b->W.get q=some b)->handed env 9 (.tup [m.val xo,aI 0]) W (.tup [m.val (CI ol),aI 0]):=λW h9=>by
      rw[<-w];exact Jg (by rfl) (C.bF h9) m 0
     clear C w Q M ht o;clear j a b1 b2 b3 b4 Y b6 b7 B sl;cases L:jV k.toNat m ol with
     | false=>rw[L]at c e;rw[show getM (k :: l)=none from e];clear e;unfold Aq;unfold aD.val at c ⊢;unfold aD.bu at mail;unfold aM;simp[ak, *]
     | true=>rw[L]at c e;rw[show getM (k :: l)=some (m,ol) from e];clear e;unfold Aq;unfold aD.val at c E ⊢;unfold aD.bu at mail;simp[ak, *, -CW];exact E _ λq T b V=>by rw[ab.get_put,if_neg (λe=>N (by rw[<-e];exact T))];exact V
    have e:getM (k :: l)=none:=(by show(match qC k.toNat (some (l,aM k,[]))with | some (F,m,ol)=>_ | none=>none)=_;rw[a];simp only[if_neg H]);have hpos:0<F.length:=BY.2 H;rw[e];unfold Aq aD.val aM;unfold aD.bu at mail;clear j a b1 b2 b3 b4 Y b6 b7 B c ops sl;simp[ak, *]
end
section
attribute [local simp] a7 aL au aJ aH bF kV bc aA aN cw cu aY ba ah bG fG
attribute [local simp] wz
def Ax{E:Env}{f:FuncId}{fn:Func}{c:Code}{args:List AV}{R:AV->Prop}(e:E.spec f args=none)(d:E.allowed f=true)(o:E.P.funcs[f]?=some fn)(l:fn.body=some c)(p:Nat.ble args.length fn.ntmps=true)
 (h:bL E fn 0 [.code c] (yQ 0 args) [] λx H =>∃y,handed E f x H y/\R y) : ∃y,aK E f args=some y/\R y:=by
 obtain⟨x,H,⟨y,a,g⟩,n,k⟩:=h.h (λ_=>AV.undef) args λi=>(Ak args i).symm;refine⟨y,vG.2 ⟨n,λm s=>?_⟩,g⟩;obtain⟨st,b,q,j⟩:=k m s;subst j;unfold cD;rw[e];unfold qR;simp only[d,if_true,o,l,if_pos (Bh p),b,q,Option.map_some];unfold handed at a;split;·rename_i b;rw[if_pos b]at a;rw[if_pos a.1];exact a.2
 rename_i b;rw[if_neg b]at a;exact a
def SB(H:ab)(bs:List UInt8)(x:AV):Prop :=∃q c,x = .bO q 0 bs.length c/\(c=none\/c=some bs.length)/\H.get q=some ⟨1,aQ bs,true,false⟩
def Wp{H:ab}{bs nw:List UInt8}{x v:AV}(h:SB H bs x)(g:Fr H)(p:kg 1 H.get v=some (aQ nw))(d:nw≠[])(G:bs.length+nw.length<=1000000){t:Nat}{K:AV->ab->Prop}
 (m : ∀j H',SB H' (bs++nw) j->Fr H'->(∀q b,H.get q=some b->x.at?≠some q->H'.get q=some b/\j.at?≠some q)->K j H') :
 jF (dK env.P true H (⟨0,t,ab.gen H 0 t,0⟩:Ref) (some 27) (some 27) x v) K:=by
 obtain⟨q,c,rfl,D,s⟩:=h;have i:aQ nw≠[]:=by simpa [aQ] using d
 rcases D with rfl | rfl
 ·obtain⟨u,H',y,n,A,E⟩:=E0 (P:=env.P) (t:=27) (t':=27) (z:=1) (by':=1) (by kernel_rfl) (by kernel_rfl) H 0 t (es:=aQ bs) (.inr ⟨q,by rw[fh],s⟩) (pV p) (by rw[fh,fh];show(_+_) * 1<=140737488355328;omega) g;refine jd y (m u H' ?_ A E);rw[EW]at n;obtain⟨l,w,B⟩:=n.bO (by simp[aQ,d]);exact⟨l,none,by rw[w,fh],.inl rfl,B⟩
 have f:lO env.P 27=1:=by kernel_rfl
 have a:tv env.P 27=1:=(by kernel_rfl);have C:0<nw.length:=BY.2 d;have k:=Cz (P:=env.P) (t:=27) (t':=27) (by kernel_rfl) (by kernel_rfl) true H ⟨0,t,H.gen 0 t,0⟩ q bs.length bs.length v (es:=aQ bs) (new:=aQ nw) (fz:=false) (by rw[f];exact s) (by rw[f];exact p) (by rw[fh]) (.inr ⟨by rw[a,fh,fh];show(_+_) * 1<=140737488355328;omega,by rw[fh,fh];omega⟩);rw[if_neg i,f,fh,fh,EW]at k;have o:H.get ⟨0,t,H.gen 0 t,0⟩=none:=g 0 t _ 0 (aV _);refine jd k (m _ _ ⟨_,none,by rw[eS],.inl rfl,by rw[ab.aZ,if_pos rfl]⟩ (lF g rfl _) λl b a F=>⟨?_,?_⟩);·rw[ab.aZ,if_neg (λe=>by rw[<-e,o]at a;cases a)];exact a
 intro e;simp only[AV.at?,du]at e;rw[<-e,o]at a;cases a
structure yt (H:ab) (r1:Ref) (b1:aP) (bs:List UInt8) (x:AV):Prop where
 fr:Fr H
 box:H.get r1=some b1
 sb:SB H bs x
 ne:x.at?≠some r1
 few:bs.length<=5000
def yt.app{H:ab}{r1:Ref}{b1:aP}{bs nw:List UInt8}{x v:AV}(h:yt H r1 b1 bs x)(e:kg 1 H.get v=some (aQ nw))(b:nw≠[])(i:bs.length+nw.length<=5000){t:Nat}{K:AV->ab->Prop}(f : ∀a H',yt H' r1 b1 (bs++nw) a->K a H') :
 jF (dK env.P true H (⟨0,t,ab.gen H 0 t,0⟩:Ref) (some 27) (some 27) x v) K:=
 Wp h.sb h.fr e b (by omega) λa H' d g c=>f a H' ⟨g,(c _ _ h.box h.ne).1,d,(c _ _ h.box h.ne).2,by rw[eS];omega⟩
def yt.UM{H:ab}{r1:Ref}{b1:aP}{bs nw:List UInt8}{x:AV}(h:yt H r1 b1 bs x)(f:nw≠[])(m:bs.length+nw.length<=5000){t u n:Nat}{ps:List (Nat × AV)}
 (d : ∀H:ab,mn env.P false true H (⟨0,t,ab.gen H 0 t,0⟩:Ref) 27 n (some ps)=some (.bO ⟨0,t,H.gen 0 t,0⟩ 0 n (some n),(⟨0,t,H.gen 0 t,0⟩,some ⟨1,aQ nw,true,false⟩) :: H)) (o:n=nw.length) {K:AV->ab->Prop} (l : ∀j H',yt H' r1 b1 (bs++nw) j->K j H') :
 jF (mn env.P false true H (⟨0,t,ab.gen H 0 t,0⟩:Ref) 27 n (some ps)) λv i=>jF (dK env.P true i (⟨0,u,ab.gen i 0 u,0⟩:Ref) (some 27) (some 27) x v) K:=by
 refine jd (d H) ?_;have a:H.get ⟨0,t,H.gen 0 t,0⟩=none:=h.fr 0 t _ 0 (aV _);have g : ∀q b,H.get q=some b->ab.get ((⟨0,t,H.gen 0 t,0⟩,some ⟨1,aQ nw,true,false⟩) :: H) q=some b:=λq b d=>by
  rw[ab.aZ,if_neg (λe=>by rw[<-e,a]at d;cases d)];exact d
 obtain⟨q,c,k,p,s⟩:=h.sb;refine yt.app (nw:=nw) ⟨lF h.fr rfl _,g _ _ h.box,⟨q,c,k,p,g _ _ s⟩,h.ne,h.few⟩ ?_ f m l;subst o;simp
def lM(l:List (bp × AV)):List UInt8:=l.flatMap λp=>ck p.1
def Vk(k:UInt8)(m:aD)(l:List (bp × AV)):List UInt8:=(if k=9 then be 3 m.t0++(be 3 m.t1++(be 3 m.t2++be 3 m.t3)) else [])++lM l
def QM(k:UInt8)(m:aD)(l:List (bp × AV)):List UInt8:=(if k=8 then be 3 m.total++[u8 (l.length:Int)] else [])++Vk k m l
def Vl(k:UInt8)(m:aD)(l:List (bp × AV)):List UInt8:=(if k=3\/k=8 then be 3 m.fromN else [])++QM k m l
def r9(k:UInt8)(m:aD)(l:List (bp × AV)):List UInt8:=(if k=6\/k=7\/k=10 then be 2 m.code else [])++Vl k m l
def r7(k:UInt8)(m:aD)(l:List (bp × AV)):List UInt8:=(if k=7 then be 3 m.serial else [])++r9 k m l
def r5(k:UInt8)(m:aD)(l:List (bp × AV)):List UInt8:=(if k=4\/k=9 then [m.asked] else [])++r7 k m l
def lB(m:aD)(l:List (bp × AV)):List UInt8:=[m.kind]++((if m.kind=1 then [u8 m.user] else [])++r5 m.kind m l)
def KQ{p:bp × AV}(hp:uS p)(A:p.1.l.length<100000)(b:my p.1=true):aK env 84 [kJ p]=some (.cC 1 (aQ (ck p.1)) none):=by
 obtain⟨⟨q,⟨v,s,o⟩,y,⟨⟨⟨u,w,t⟩,z⟩,e⟩,⟨⟨j,g,n⟩,h⟩,⟨i,k⟩,C⟩,B⟩:=p;exact xY q v s o y u w t z e j g n h i k hp.1 A b
def Ln{o:bp}(h:my o=true):(ck o).length<=293:=by rw[oA h];exact(zY h).2
def Lm{o:bp}(h:my o=true):ck o≠[]:=λe=>by
 have:=oA h;rw[e]at this;have g:=(zY h).1;simp at this;omega
section
variable{x:AV}{l:List (bp × AV)}(d:Sl 17 (a6 l) x)(f:l.length<=3)(c : ∀p∈l,uS p)(a : ∀p∈l,p.1.l.length<100000)(b:qS l=true)(m:aD){r1:Ref}{Q:AV->ab->Prop}
include d f c a b
theorem V3 : ∀(s:List (bp × AV)) (j:Nat) (x3:AV) (H:ab) (bs:List UInt8),l.drop j=s->j<=l.length->yt H r1 (m.bu x) bs x3->bs.length<=50+293 * j->(∀u H',yt H' r1 (m.bu x) (bs++lM s) u->Q u H') ->
 bL env Tryz.f38 0 ef [(6,aI j),(1,.ptr r1 0 0),(3,x3)] H Q:=by
 intro s;induction s with
 | nil=>intro j x3 H bs K L t G z;obtain rfl:=drop_nil K L;have hQ':=z x3 H (by simpa [lM] using t);have k:=t.box;have n:=d.len;unfold aD.bu at k;clear z t c a b;refine l9 _ _ _ _ _ λg=>?_;simp[ak, *,iL];done
 | cons p s O=>
  intro j x3 H bs K L t G z;obtain⟨hlt,hg,E,I⟩:=drop_cons K;have C:p∈l:=hg ▸ kq _;have i:my p.1=true:=eC.1 b p C;have D:=KQ (c p C) (a p C) i;have w:=(c p C).1.r;have X:=iQa ((j:Int)+1) (by omega);have A:(j:Int)<l.length:=by omega
  have k:=t.box;have n:=d.len;have v:=Ln i;have q:=Lm i;have e:=λu H' o=>O (j+1) u H' (bs++ck p.1) E (by omega) o (by rw[eS];omega) (λF J h=>z F J (by rw[il]at h;exact h));rw[show((j+1:Nat):Int)=(j:Int)+1 from by omega]at e;clear O z c a b C;unfold aD.bu at k;obtain⟨T,xp⟩:=p;obtain⟨B,y⟩ : ∃B,B=ck T:=⟨_,rfl⟩;simp only at D i v q e w;rw[<-y]at D v q e;clear y i;obtain⟨a_1,⟨a_2,W,a_4⟩,Y,⟨⟨⟨Z,a_7,a_8⟩,a_9⟩,M⟩,⟨⟨S,U,P⟩,R⟩,⟨N,V⟩,al⟩:=T;simp only[kJ]at D;refine l9 _ _ _ _ _ λg=>?_;unfold iL;simp[d.idx,a6,kJ,k,n,A,I,w,D];refine t.app (nw:=B) (by simp) q (by omega) λu H' o=>?_;replace e:=e u H' o;simp[X];exact e
end
end
section
attribute [local simp] a7 aL au aJ aH bF kV bc aA aN cw cu aY ba ah bG fG
def Tr{p q:bp × AV}(hp:uS p)(K:uS q):aK env 45 [kJ p,kJ q]=some (aB (qx p.1 q.1)):=by
 obtain⟨⟨B,⟨z,D,A⟩,t,⟨⟨⟨w,F,E⟩,I⟩,i⟩,⟨⟨g,j,o⟩,d⟩,⟨l,n⟩,O⟩,M⟩:=p;obtain⟨⟨v,⟨x,G,C⟩,s,⟨⟨⟨u,H,J⟩,y⟩,k⟩,⟨⟨b,f,m⟩,a⟩,⟨c,e⟩,N⟩,L⟩:=q;have h:=hp.2;simp only at h;exact Qs B z D A t w F E I i g j o d l n v x G C s u H J y k b f m a c e hp.1 K.1 (by omega)
def R0{x y:AV}{l m:List (bp × AV)}(hx:Sl 17 (a6 l) x)(hy:Sl 17 (a6 m) y)(hl:l.length<100000)(d:l.length=m.length)(ha : ∀p∈l,uS p)(hb : ∀p∈m,uS p){Q:AV->ab->Prop} :
 ∀(s t:List (bp × AV)) (k:Nat) (i:Int) (H:ab),l.drop k=s->m.drop k=t->k<=l.length->i=k->Fr H->(∀v H',v=aB (dx s t)->Q v H') ->
 bL env Tryz.f44 0 ao [(17,aI i),(2,.fn (.func 45) [] []),(1,y),(15,x),(16,aI l.length)] H Q:=by
 intro s;induction s with
 | nil=>
  rintro t k i H hs ht hk rfl hF hQ;obtain rfl:=drop_nil hs hk;have et:t=[]:=by rw[<-ht,d];exact Dk
  subst et;have a:=λv H' h=>hQ v H' h;clear hQ;refine bk _ _ _ _ _ _ _ λg=>?_;simp[ak, *,aq];all_goals exact a _ _ rfl
 | cons p s ih=>
  rintro t k i H hs ht hk rfl hF hQ;obtain⟨hlt,hg,K,hg'⟩:=drop_cons hs;have hlt2:k<m.length:=by omega
  obtain⟨q,t',rfl⟩ : ∃q t',t=q :: t':=by
   cases t with| nil=>exact absurd ht (by intro h;have:=iQh List.length h;simp at this;omega)| cons q t'=>exact⟨q,t',rfl⟩
  obtain⟨_,hg2,N,hg2'⟩:=drop_cons ht;have hp:=ha p (hg ▸ kq _);have M:=hb q (hg2 ▸ kq _);have b:=Tr hp M;have e3:=iQa ((k:Int)+1) (by omega);have B:=λH' W=>ih t' (k+1) ((k:Int)+1) H' K N (by omega) (by simp) W;have hpr:=hp.1.r;have hqr:=M.1.r;clear ih;obtain⟨⟨Y,⟨V,L,X⟩,a_5,⟨⟨⟨S,a_7,a_8⟩,a_9⟩,j⟩,⟨⟨C,D,o⟩,z⟩,⟨n,G⟩,al⟩,xa⟩:=p;obtain⟨⟨J,⟨T,b_3,Z⟩,R,⟨⟨⟨I,O,P⟩,U⟩,E⟩,⟨⟨w,A,F⟩,u⟩,⟨e,f⟩,bl⟩,xb⟩:=q;simp only[kJ]at b;refine bk _ _ _ _ _ _ _ λg=>?_;clear hp M ha hb d;cases c:qx (⟨Y,⟨V,L,X⟩,a_5,⟨⟨⟨S,a_7,a_8⟩,a_9⟩,j⟩,⟨⟨C,D,o⟩,z⟩,⟨n,G⟩,al⟩:bp) (⟨J,⟨T,b_3,Z⟩,R,⟨⟨⟨I,O,P⟩,U⟩,E⟩,⟨⟨w,A,F⟩,u⟩,⟨e,f⟩,bl⟩:bp) with
  | false=>have a:=λv H' (h:v=aB false)=>hQ v H' (by simp[dx,c,h]);rw[c]at b;clear hQ B c;simp[ak, *,aq,hx.idx,hy.idx,a6,kJ];all_goals exact a _ _ rfl
  | true=>have a:=λv H' (h:v=aB (dx s t'))=>hQ v H' (by simp[dx,c,h]);rw[c]at b;clear hQ c;simp[ak, *,aq,hx.idx,hy.idx,a6,kJ];all_goals exact B _ (by simp(maxDischargeDepth:=12) [SJ, *]) a
def ZU{x y:AV}{l m:List (bp × AV)}(c:Sl 17 (a6 l) x)(d:Sl 17 (a6 m) y)(j:l.length<100000)(n : ∀p∈l,uS p)(i : ∀p∈m,uS p) :
 aK env 44 [x,y,.fn (.func 45) [] []]=some (aB (dx l m)):=by
 refine bo rfl (by kernel_rfl) (cO _ _ _ _ _ λg=>?_);have o:=c.len;have q:=d.len;by_cases a:l.length=m.length
 ·have f:m.length=l.length:=a.symm;have b:(m.length:Int)=l.length:=by omega
  have k:=R0 c d j a n i (Q:=λv H=>handed env 44 v H (aB (dx l m))) l m 0 0 [] rfl rfl (by omega) rfl (by simp(maxDischargeDepth:=12) [SJ, *]) (λv H' e=>by subst e;simp);clear a;simp[ak, *,aF];all_goals exact k
 have e:dx l m=false:=by
  cases h:dx l m with| false=>rfl| true=>exact absurd (by simpa using iQh List.length (xX h)) a
 have b : ¬(l.length:Int)=m.length:=(by omega);simp[ak, *,aF]
def zd{x y:AV}{l m:List (bp × AV)}(v:Sl 17 (a6 l) x)(C:Sl 17 (a6 m) y)(P:l.length<100000)(O : ∀p∈l,uS p)(N : ∀p∈m,uS p)(a b:aD) :
 aK env 17 [a.val x,b.val y]=some (aB (nO a b&&dx l m)):=by
 refine bo rfl (by kernel_rfl) (G0 _ _ _ _ λg=>?_);have S:=ZU v C P O N;have R:=v.r;have M:=C.r;obtain⟨E,B,q,D,J,w,H,G,K,d,h⟩:=a;obtain⟨o,z,I,F,u,n,s,t,A,k,f⟩:=b;unfold nO aD.val;have e:(∀r i j,lu x (.ptr r i j)=true) /\∀r i j,lu y (.ptr r i j)=true:=by
  constructor;·rcases v with ⟨rfl,_⟩ | ⟨c,rfl,_⟩<;>exact λ_ _ _=>rfl
  rcases C with ⟨rfl,_⟩ | ⟨c,rfl,_⟩<;>exact λ_ _ _=>rfl
 obtain⟨e,L⟩:=e;cases c1:decide (E=o) with
 | false=>simp[ak, *,hJ,mj,eZ,mi]
 | true=>
 cases T:decide (B=z) with| false=>simp[ak, *,hJ,mj,eZ,mi]| true=>
 cases X:decide (q=I) with| false=>simp[ak, *,hJ,mj,eZ,mi]| true=>
 cases W:decide (D=F) with| false=>simp[ak, *,hJ,mj,eZ,mi]| true=>
 cases Y:decide (J=u) with| false=>simp[ak, *,hJ,mj,eZ,mi]| true=>
 cases U:decide (w=n) with| false=>simp[ak, *,hJ,mj,eZ,mi]| true=>
 cases Q:decide (H=s) with| false=>simp[ak, *,hJ,mj,eZ,mi]| true=>
 cases V:(decide (G=t)&&(decide (K=A)&&(decide (d=k)&&decide (h=f)))) with| false=>simp[ak, *,hJ,mj,eZ,mi]| true=>simp[ak, *,hJ,mj,eZ,mi]
end
section
attribute [local simp] a7 aL au aJ aH bF kV bc aA aN cw cu aY ba ah bG fG
attribute [local simp] wz
def cnt(n:Int):Prop:=0<=n/\n<16777216
structure Rng (m:aD):Prop where
 t0:cnt m.t0
 t1:cnt m.t1
 t2:cnt m.t2
 t3:cnt m.t3
 total:cnt m.total
 fromN:cnt m.fromN
 serial:cnt m.serial
 c0:0<=m.code
 c1:m.code<65536
def vm{n:Int}(h:cnt n):aK env 83 [aI n]=some (.cC 1 (aQ (be 3 n)) (some 3)):=KS n h.1 h.2
def zt(n:Int):be 3 n≠[]:=by rw[Sn];simp
def mo(n:Int):(be 3 n).length=3:=by rw[Sn];rfl
section
variable{x:AV}{l:List (bp × AV)}(d:Sl 17 (a6 l) x)(f:l.length<=3)(e : ∀p∈l,uS p)(a : ∀p∈l,p.1.l.length<100000)(c:qS l=true){m:aD}(b:Rng m){r1:Ref}{Q:AV->ab->Prop}
include d f e a c b
theorem UH{x3:AV}{H:ab}{bs:List UInt8}(i:yt H r1 (m.bu x) bs x3)(n:bs.length<=40)(k : ∀j H',yt H' r1 (m.bu x) (bs++lM l) j->Q j H') :
 bL env Tryz.f38 0 bX [(5,aI 4),(1,.ptr r1 0 0),(3,x3)] H Q:=by
 have h:=V3 d f e a c m l 0 x3 H bs rfl (by omega) i (by omega) k;clear i k;refine dU _ _ _ _ _ λg=>?_;simp[ak, *,da];exact h
theorem UI{x3:AV}{H:ab}{bs:List UInt8}(t:yt H r1 (m.bu x) bs x3)(y:bs.length<=37)(u : ∀k H',yt H' r1 (m.bu x) (bs++(be 3 m.t3++(lM l))) k->Q k H') :
 bL env Tryz.f38 0 bX [(5,aI 3),(1,.ptr r1 0 0),(3,x3)] H Q:=by
 have w:=vm b.t3;have n:=t.box;have i:=λk H' j=>UH d f e a c b (x3:=k) (H:=H') (bs:=bs++be 3 m.t3) j (by rw[eS,mo];omega) (λo s h=>u o s (by rw[il]at h;exact h));have q:=zt m.t3;have v:=mo m.t3;clear u;unfold aD.bu at n;generalize be 3 m.t3=B at *;refine dU _ _ _ _ _ λg=>?_;unfold da;simp[n,w];refine t.app (nw:=B) (by simp) q (by omega) λk H' j=>?_;replace i:=i k H' j;simp;exact i
theorem UJ{x3:AV}{H:ab}{bs:List UInt8}(t:yt H r1 (m.bu x) bs x3)(y:bs.length<=34)(u : ∀k H',yt H' r1 (m.bu x) (bs++(be 3 m.t2++(be 3 m.t3++(lM l)))) k->Q k H') :
 bL env Tryz.f38 0 bX [(5,aI 2),(1,.ptr r1 0 0),(3,x3)] H Q:=by
 have w:=vm b.t2;have n:=t.box;have i:=λk H' j=>UI d f e a c b (x3:=k) (H:=H') (bs:=bs++be 3 m.t2) j (by rw[eS,mo];omega) (λo s h=>u o s (by rw[il]at h;exact h));have q:=zt m.t2;have v:=mo m.t2;clear u;unfold aD.bu at n;generalize be 3 m.t2=B at *;refine dU _ _ _ _ _ λg=>?_;unfold da;simp[n,w];refine t.app (nw:=B) (by simp) q (by omega) λk H' j=>?_;replace i:=i k H' j;simp;exact i
theorem UK{x3:AV}{H:ab}{bs:List UInt8}(t:yt H r1 (m.bu x) bs x3)(y:bs.length<=31)(u : ∀k H',yt H' r1 (m.bu x) (bs++(be 3 m.t1++(be 3 m.t2++(be 3 m.t3++(lM l))))) k->Q k H') :
 bL env Tryz.f38 0 bX [(5,aI 1),(1,.ptr r1 0 0),(3,x3)] H Q:=by
 have w:=vm b.t1;have n:=t.box;have i:=λk H' j=>UJ d f e a c b (x3:=k) (H:=H') (bs:=bs++be 3 m.t1) j (by rw[eS,mo];omega) (λo s h=>u o s (by rw[il]at h;exact h));have q:=zt m.t1;have v:=mo m.t1;clear u;unfold aD.bu at n;generalize be 3 m.t1=B at *;refine dU _ _ _ _ _ λg=>?_;unfold da;simp[n,w];refine t.app (nw:=B) (by simp) q (by omega) λk H' j=>?_;replace i:=i k H' j;simp;exact i
theorem UL{x3:AV}{H:ab}{bs:List UInt8}(t:yt H r1 (m.bu x) bs x3)(y:bs.length<=28)(u : ∀k H',yt H' r1 (m.bu x) (bs++(be 3 m.t0++(be 3 m.t1++(be 3 m.t2++(be 3 m.t3++(lM l)))))) k->Q k H') :
 bL env Tryz.f38 0 bX [(5,aI 0),(1,.ptr r1 0 0),(3,x3)] H Q:=by
 have w:=vm b.t0;have n:=t.box;have i:=λk H' j=>UK d f e a c b (x3:=k) (H:=H') (bs:=bs++be 3 m.t0) j (by rw[eS,mo];omega) (λo s h=>u o s (by rw[il]at h;exact h));have q:=zt m.t0;have v:=mo m.t0;clear u;unfold aD.bu at n;generalize be 3 m.t0=B at *;refine dU _ _ _ _ _ λg=>?_;unfold da;simp[n,w];refine t.app (nw:=B) (by simp) q (by omega) λk H' j=>?_;replace i:=i k H' j;simp;exact i
end
end
section
attribute [local simp] a7 aL au aJ aH bF kV bc aA aN cw cu aY ba ah bG fG
def Jk{E:Env}{f:FuncId}{fn:Func}{c:Code}{args:List AV}{R:AV->Prop}(e:E.spec f args=none)(d:E.allowed f=true)(o:E.P.funcs[f]?=some fn)(l:fn.body=some c)(p:Nat.ble args.length fn.ntmps=true)
 (h:bL E fn 0 [.code c] (yQ 0 args) [] λx H =>∃y,handed E f x H y/\R y) : ∃y,aK E f args=some y/\R y:=by
 obtain⟨x,H,⟨y,a,g⟩,n,k⟩:=h.h (λ_=>AV.undef) args λi=>(Ak args i).symm;refine⟨y,vG.2 ⟨n,λm s=>?_⟩,g⟩;obtain⟨st,b,q,j⟩:=k m s;subst j;unfold cD;rw[e];unfold qR;simp only[d,if_true,o,l,if_pos (Bh p),b,q,Option.map_some];unfold handed at a;split;·rename_i b;rw[if_pos b]at a;rw[if_pos a.1];exact a.2
 rename_i b;rw[if_neg b]at a;exact a
def MV{y:AV}(m:aD)(e:Int) : ∀r s bs,ae r 6 y []=(s,bs)->ae r depth (.tup [m.val y,aI e]) []=(.tup [m.val s,aI e],bs):=by
 intro r s bs h;have a:ae r 7 (m.val y) []=(m.val s,bs):=by
  unfold aD.val;show(λp:List AV × List aP=>(AV.agg p.1,p.2)) ([a8 m.kind,aI m.user,aI m.serial,aI m.code,aI m.fromN,aI m.total,a8 m.asked,aI m.t0,aI m.t1,aI m.t2,aI m.t3,y].foldl (λ(p:List AV × List aP) c=>let (y,bs):=ae r 6 c p.2;(p.1++[y],bs)) ([],[]))=_;simp only[sG,List.foldl_nil,h,show ∀(x:UInt8)(bs:List aP),ae r 6 (a8 x) bs=(a8 x,bs) from λx bs=>rfl,show ∀(x:Value)(bs:List aP),ae r 6 (.v x) bs=(.v x,bs) from λx bs=>rfl];rfl
 show(λp:List AV × List aP=>(AV.tup p.1,p.2)) ([m.val y,aI e].foldl (λ(p:List AV × List aP) c=>let (y,bs):=ae r 7 c p.2;(p.1++[y],bs)) ([],[]))=_;simp only[sG,a];rfl
def FM{x:AV}{l:List (bp × AV)}(hx:Sl 17 (a6 l) x)(hl:l.length<=10)(ha : ∀p∈l,uS p)(m:aD) : ∃y,aK env 7 [m.val x]=some y/\Aa m l y:=by
 refine Jk (fn:=Tryz.f7) (c:=J2) rfl (by kernel_rfl) (by kernel_rfl) (by kernel_rfl) (by kernel_rfl) ?_;refine Is _ _ _ λg=>?_;have U:=MG;have hxr:=hx.r;have u:=λ(g:cb)(r:Ref)=>Qh g r m.kind;have him : ∀(r:Ref)(es:List AV),ae r 8 (.fsl 0 es none) []=(.mp { r with k:=0},[⟨0,es,false,false⟩]):=λr es=>rfl;cases j:kE m.kind.toNat with
 | none=>
  have O:=rH (m:=m) (l:=l) (by simp[nA,j]);have X:Ew m.kind.toNat = .agg [.v .nilFunc,.v .nilFunc]:=by unfold Ew;rw[j]
  have h0:(AV.v .nilFunc).one=true:=rfl;rw[j,X]at u;have T : ¬m.kind=8:=by intro h;rw[h]at j;cases j
  have M : ¬m.kind=2:=by intro h;rw[h]at j;cases j
  clear X j;unfold aD.val;by_cases hz:l.length=0;·simp[ak, *,m7]
  simp[ak, *,m7]
 | some i=>
  obtain⟨d,mf,K⟩:=M6 (n:=m.kind.toNat) (by rw[j];rfl);rw[j,K.v]at u;have hT:=bY (f:=d) K.md;have hmm:=K.mm;have hmm3:=K.mm3;unfold YT at u;have ho1:(AV.fn (.func d) [] []).one=true:=rfl;have ho2:(AV.fn (.func mf) [] []).one=true:=rfl;have ho0:(AV.v Value.nilFunc).one=true:=rfl;cases e:uA m l with
  | false=>
   have O:=rH (m:=m) (l:=l) (by simp[nA,e]);have T:decide (m.kind=8)=false:=by cases h:decide (m.kind=8) with
    | false=>rfl
    | true=>simp[uA,h]at e
   unfold aD.val;cases M:decide (m.kind=2) with
   | true=>
    have h1 : ¬(l.length:Int)=1:=by
     intro h;have h:l.length=1:=by omega
     simp[uA,M,h]at e
    clear K j e;by_cases h0:l=[];·subst h0;simp[ak, *,m7]
    simp[ak, *,m7]
   | false=>
    have h0 : ¬l=[]:=by intro h;simp[uA,M,h]at e
    clear K j e;simp[ak, *,m7]
  | true=>
   have N:(m.kind.toNat=2->l.length=1):=by
    intro h;have M:m.kind=2:=pr.1 h;have T : ¬(m.kind=8):=by rw[M];decide
    simp[uA,M]at e;exact e
   have J:(decide (m.kind=8)=true/\0=0/\1=1)\/(decide (m.kind=8)=false/\decide (m.kind=2)=true/\(l.length:Int)=1)\/(decide (m.kind=8)=false/\decide (m.kind=2)=false/\(l.length:Int)=0):=by
    cases T:decide (m.kind=8) with| true=>exact .inl ⟨rfl,rfl,rfl⟩| false=>
     cases M:decide (m.kind=2) with
     | true=>simp[uA,T,M]at e;exact .inr (.inl ⟨rfl,rfl,by omega⟩)
     | false=>simp[uA,T,M]at e;exact .inr (.inr ⟨rfl,rfl,by rw[e];rfl⟩)
   have a:nA m l=(!(eK m.kind.toNat m l).2&&jV m.kind.toNat m l&&Gl m l (getM (m.kind :: (eK m.kind.toNat m l).1))):=(by simp[nA,j,e]);clear e j;unfold aD.val;rcases J with ⟨c1,c2,c3⟩ | ⟨c1,c2,c3⟩ | ⟨c1,c2,c3⟩
   all_goals
    simp[ak, *,m7]
    clear c1 c2 c3
    refine R7 (K.wr (r:=⟨0,53,0,0⟩) (rm:=⟨0,8,0,0⟩) (bs:=[m.kind]) (m:=m) (xo:=x) (ol:=l) ⟨⟨⟨0,51,0,0⟩,some 1,⟨rfl,rfl,by decide,.inr ⟨rfl,rfl⟩,by simp⟩,.inl rfl⟩,(by simp(maxDischargeDepth:=12) [SJ, *]),rfl,by decide,vn _ _ _ _ (by decide)⟩ (by simp) hx ha hl N) λy H9 hd=>?_
    obtain⟨bs',W,L⟩:=hd
    obtain⟨q,c,hP,hq⟩:=W.mw.pen
    have hb4:=W.old ⟨0,4,0,0⟩ _ (vn _ _ _ _ (by decide)) (by decide) (by decide) rfl
    have Z:=W.old ⟨0,1,0,0⟩ _ (vn _ _ _ _ (by decide)) (by decide) (by decide) rfl
    have hF:=W.mw.fr
    have A:=K.may m hx ha N
    unfold aD.val at A
    obtain⟨box,row,ne,cap,few⟩:=hP
    clear W
    cases hw:(eK m.kind.toNat m l).2 with| true=>have O:=rH (m:=m) (l:=l) (by rw[a,hw];rfl);rw[hw]at box;clear A a L K;simp[ak, *]| false=>
     have L:=L hw;rw[hw]at box;subst L;cases e:jV m.kind.toNat m l with
     | false=>have O:=rH (m:=m) (l:=l) (by rw[a,e];simp);rw[e]at A;clear a K e hw;simp[ak, *]
     | true=>
      have Q:Sl 1 (aQ ([m.kind]++(eK m.kind.toNat m l).1)) (.cC 1 (aQ ([m.kind]++(eK m.kind.toNat m l).1)) c):=by
       rw[XU];refine⟨rfl,?_⟩;rcases cap with rfl | ⟨rfl,h1⟩
       ·exact aV _
       rw[fh,h1];exact aV _
      have o:=FN Q few;have hpq:=a;rw[hw,e]at a;rw[e]at A;clear K hpq cap e;simp only[iQJ]at o Q box row few;simp only[sF,kX,sV]at a;have few':(m.kind :: (eK m.kind.toNat m l).1).length<1000000:=few;have F : ∀z,nA m l=true->Sl 1 (aQ (m.kind :: (eK m.kind.toNat m l).1)) z->Aa m l (.tup [z,aI 0]):=λz h hz=>by
       unfold Aa;rw[h,if_pos rfl];exact⟨z,rfl,hz⟩
      have hbl:(aQ (m.kind :: (eK m.kind.toNat m l).1)).length=(m.kind :: (eK m.kind.toNat m l).1).length:=fh _;generalize hB:m.kind :: (eK m.kind.toNat m l).1=B at *;clear hB hw;cases P:getM B with
      | none=>have O:=rH (m:=m) (l:=l) (by rw[a,P];rfl);rw[P]at o;clear F a P;unfold Aq aD.val aM at o;simp[ak, *]
      | some s=>
       obtain⟨Y,D⟩:=s;obtain⟨b2,b3, -⟩:=AD P;have w:=zd (Ah D) hx (by omega) (Jw b2) ha Y m;have a:nA m l=(nO Y m&&dx D l):=by rw[a,P];rfl
       rw[P]at o;have R:=F (.cC 1 (aQ B) c);have E:=λ(H:ab)(r:Ref) K hr hF hK=>Gf (H:=H) (r:=r) (K:=K) (refs:=[q]) hr (z:=17) (by decide) (y:=CI D) (es':=bV D) (mk:=λs => .tup [Y.val s,aI 0]) (n:=3) o (MV Y 0) (I6 D) (Bu D) hF hK;have I:=yd (ol:=D) (λp hp=>(b2 p hp).2);clear F P b2 b3 o;have hor:=(Ah D).r;have hlq:(H9.get q).isSome=true:=by rw[row];rfl
       have S : ∀t,t≠51/\t≠55/\t≠46->(⟨0,t,0,0⟩:Ref)≠q:=λt h=>p9 (vn _ _ _ _ h) hq;have V:=S 1 (by decide);have hs1':=V.symm;have hs4:=S 4 (by decide);have ne':=ne.symm;clear S;simp[ak, *,ab.get_put];refine E _ _ _ ⟨_,_,rfl⟩ ?_ λH' s rs hF' G U hfr ho=>?_;·exact(by simp(maxDischargeDepth:=12) [rE, *])
       have b1:=U.same (q:=⟨0,1,0,0⟩) (by simpa using V) Z;have bx:=U.same (q:=⟨0,53,0,0⟩) (by simpa using ne') box;obtain⟨fz,rq, -⟩:=U q _ row;have lq:(H'.get q).isSome=true:=by rw[rq];rfl
       have l1:(H'.get ⟨0,1,0,0⟩).isSome=true:=by rw[b1];rfl
       have lx:(H'.get ⟨0,53,0,0⟩).isSome=true:=by rw[bx];rfl
       have hvs : ∀(b:Option aP) n,view (ab.get ((⟨0,9,H'.gen 0 9,0⟩,b) :: H')) (n+3) s=some (opsV D):=λb n=>by
        have hd2:pn 17 ((⟨0,9,H'.gen 0 9,0⟩,b) :: H') s (bV D) rs:=G.bF λq hq b' O=>by
         rw[ab.aZ,if_neg (b8 hF' (by rw[O];rfl) _ _ _)];exact O
        rw[(hd2.out n).2.1,ho,I]
       have hc:=qG G;clear E U hfr G ho I Z hb4 box row hlq hF;unfold aD.val at w ⊢;generalize opsV D=ov at *;cases C:(nO Y m&&dx D l) with
       | false=>have O:=rH (m:=m) (l:=l) (by rw[a,C]);rw[C]at w;clear R a C;simp[ak, *,ab.get_put]
       | true=>have R:=R (by rw[a,C]) Q;rw[C]at w;clear a C;simp[ak, *,ab.get_put]
def Cf{x:AV}{l:List (bp × AV)}(b:Sl 17 (a6 l) x)(f:l.length<=10)(i : ∀p∈l,uS p)(m:aD):aK env 13 [m.val x]=some (if nA m l then aI 0 else aI 8):=by
 refine bo rfl (by kernel_rfl) (Fk _ _ _ λg=>?_);obtain⟨y,h,hp⟩:=FM b f i m;have e:=b.r;unfold aD.val at h ⊢;cases a:nA m l with
 | false=>unfold Aa at hp;rw[a,if_neg (by decide)]at hp;subst hp;simp[ak, *,tC]
 | true=>unfold Aa at hp;rw[a,if_pos rfl]at hp;obtain⟨z,rfl,d⟩:=hp;have c:=d.r;simp[ak, *,tC]
end
section
attribute [local simp] a7 aL au aJ aH bF kV bc aA aN cw cu aY ba ah bG fG
attribute [local simp] wz
def be2(n:Int):be 2 n=[u8 (n / 256),u8 n]:=by simp[C0,be]
section
variable{x:AV}{l:List (bp × AV)}(e:Sl 17 (a6 l) x)(j:l.length<=3)(i : ∀p∈l,uS p)(b : ∀p∈l,p.1.l.length<100000)(f:qS l=true){m:aD}(d:Rng m){r1:Ref}{Q:AV->ab->Prop}
include e j i b f d
theorem V4{k:UInt8}{x3:AV}{H:ab}{bs:List UInt8}(h:yt H r1 (m.bu x) bs x3)(q:bs.length<=26)(c : ∀o H',yt H' r1 (m.bu x) (bs++Vk k m l) o->Q o H') :
 bL env Tryz.f38 0 fC [(1,.ptr r1 0 0),(3,x3),(4,a8 k)] H Q:=by
 unfold Vk at c;by_cases n:k=9;·rw[if_pos n]at c;have a:=UL e j i b f d h (by omega) (Q:=Q) (by simpa only[il] using c);subst n;clear c h;refine ma _ _ _ _ _ λg=>?_;simp[ak, *,iM];first | done | exact a
 rw[if_neg n,ko]at c;have a:=V3 e j i b f m l 0 x3 H bs rfl (by omega) h (by omega) c;clear c h;refine ma _ _ _ _ _ λg=>?_;simp[ak, *,iM];first | done | exact a
theorem V5{k:UInt8}{x3:AV}{H:ab}{bs:List UInt8}(u:yt H r1 (m.bu x) bs x3)(A:bs.length<=20)(q : ∀o H',yt H' r1 (m.bu x) (bs++QM k m l) o->Q o H') :
 bL env Tryz.f38 0 fD [(1,.ptr r1 0 0),(4,a8 k),(3,x3)] H Q:=by
 unfold QM at q;by_cases v:k=8;·rw[if_pos v]at q;have z:=vm d.total;have s:=u.box;have t:=e.len;have h:=λo H' a=>V4 e j i b f d (k:=k) (x3:=o) (H:=H') (bs:=(bs++be 3 m.total)++[u8 (l.length:Int)]) a (by rw[eS,eS,mo];simp;omega) (Q:=Q) (by simpa only[il] using q);have w:=zt m.total;have y:=mo m.total;subst v;clear q;generalize be 3 m.total=B at *;refine mb _ _ _ _ _ λg=>?_;unfold iN;unfold aD.bu at s;simp[s,z];refine u.app (nw:=B) (by simp) w (by omega) λo H' a=>?_;have c:=a.box;unfold aD.bu at c;simp[c,t, -AL];refine a.UM (n:=1) (nw:=[u8 (l.length:Int)]) (by simp) (by rw[eS];simp;omega) (λH=>by simp[aQ]) rfl λo H' a=>?_;exact h o H' a
 rw[if_neg v,ko]at q;have h:=V4 e j i b f d (k:=k) u (by omega) q;clear q u;refine mb _ _ _ _ _ λg=>?_;simp[ak, *,iN];first | done | exact h
theorem V6{k:UInt8}{x3:AV}{H:ab}{bs:List UInt8}(s:yt H r1 (m.bu x) bs x3)(w:bs.length<=15)(h : ∀n H',yt H' r1 (m.bu x) (bs++Vl k m l) n->Q n H') :
 bL env Tryz.f38 0 fE [(1,.ptr r1 0 0),(4,a8 k),(3,x3)] H Q:=by
 unfold Vl at h;by_cases q:k=3\/k=8
 ·rw[if_pos q]at h;have v:=vm d.fromN;have o:=s.box;have a:=λn H' c=>V5 e j i b f d (k:=k) (x3:=n) (H:=H') (bs:=bs++be 3 m.fromN) c (by rw[eS,mo];omega) (Q:=Q) (by simpa only[il] using h);have t:=zt m.fromN;have u:=mo m.fromN;clear h;generalize be 3 m.fromN=B at *;unfold aD.bu at o;refine mc _ _ _ _ _ λg=>?_;unfold iO;rcases q with rfl | rfl
  all_goals
   simp[o,v]
   refine s.app (nw:=B) (by simp) t (by omega) λn H' c=>?_
   exact a n H' c
 rw[if_neg q,ko]at h;have a:=V5 e j i b f d (k:=k) s (by omega) h;simp only[not_or]at q;clear h s;refine mc _ _ _ _ _ λg=>?_;simp[ak, *,iO,q];first | done | exact a
theorem aa7{k:UInt8}{x3:AV}{H:ab}{bs:List UInt8}(u:yt H r1 (m.bu x) bs x3)(z:bs.length<=12)(a : ∀o H',yt H' r1 (m.bu x) (bs++r9 k m l) o->Q o H') :
 bL env Tryz.f38 0 gk [(1,.ptr r1 0 0),(4,a8 k),(3,x3)] H Q:=by
 unfold r9 at a;by_cases s:k=6\/k=7\/k=10
 ·rw[if_pos s]at a;have w:=λt xo v=>jz t xo v (n:=m.code) 256 (by omega) d.c0 (by have:=d.c1;omega);have y:=λt xo v=>jy t xo v (n:=m.code) d.c0;rw[be2]at a;have q:=u.box;have c:=λo H' h=>V6 e j i b f d (k:=k) (x3:=o) (H:=H') (bs:=bs++[u8 (m.code / 256),u8 m.code]) h (by simp;omega) (Q:=Q) (by simpa only[il] using a);clear a;unfold aD.bu at q;refine mH _ _ _ _ _ λg=>?_;unfold ji;rcases s with rfl | rfl | rfl
  all_goals
   simp[q,jx, -AL,w,y]
   refine u.UM (n:=2) (nw:=[u8 (m.code / 256),u8 m.code]) (by simp) (by simp;omega) (λH=>by simp[aQ]) rfl λo H' h=>?_
   exact c o H' h
 rw[if_neg s,ko]at a;have c:=V6 e j i b f d (k:=k) u (by omega) a;simp only[not_or]at s;clear a u;refine mH _ _ _ _ _ λg=>?_;simp[ak, *,ji,s];first | done | exact c
theorem aa8{k:UInt8}{x3:AV}{H:ab}{bs:List UInt8}(s:yt H r1 (m.bu x) bs x3)(w:bs.length<=8)(h : ∀n H',yt H' r1 (m.bu x) (bs++r7 k m l) n->Q n H') :
 bL env Tryz.f38 0 gl [(1,.ptr r1 0 0),(4,a8 k),(3,x3)] H Q:=by
 unfold r7 at h;by_cases q:k=7
 ·rw[if_pos q]at h;have v:=vm d.serial;have o:=s.box;have a:=λn H' c=>aa7 e j i b f d (k:=k) (x3:=n) (H:=H') (bs:=bs++be 3 m.serial) c (by rw[eS,mo];omega) (Q:=Q) (by simpa only[il] using h);have t:=zt m.serial;have u:=mo m.serial;clear h;generalize be 3 m.serial=B at *;unfold aD.bu at o;refine mI _ _ _ _ _ λg=>?_;unfold jk;subst q;all_goals
   simp[o,v]
   refine s.app (nw:=B) (by simp) t (by omega) λn H' c=>?_
   exact a n H' c
 rw[if_neg q,ko]at h;have a:=aa7 e j i b f d (k:=k) s (by omega) h;skip;clear h s;refine mI _ _ _ _ _ λg=>?_;simp[ak, *,jk,q];first | done | exact a
theorem aa9{k:UInt8}{x3:AV}{H:ab}{bs:List UInt8}(t:yt H r1 (m.bu x) bs x3)(u:bs.length<=5)(h : ∀o H',yt H' r1 (m.bu x) (bs++r5 k m l) o->Q o H') :
 bL env Tryz.f38 0 gm [(1,.ptr r1 0 0),(4,a8 k),(3,x3)] H Q:=by
 unfold r5 at h;by_cases s:k=4\/k=9
 ·rw[if_pos s]at h;have q:=t.box;have a:=λo H' c=>aa8 e j i b f d (k:=k) (x3:=o) (H:=H') (bs:=bs++[m.asked]) c (by simp;omega) (Q:=Q) (by simpa only[il] using h);clear h;unfold aD.bu at q;refine mJ _ _ _ _ _ λg=>?_;unfold jl;rcases s with rfl | rfl
  all_goals
   simp[q,jx, -AL]
   refine t.UM (n:=1) (nw:=[m.asked]) (by simp) (by simp;omega) (λH=>by simp[aQ]) rfl λo H' c=>?_
   exact a o H' c
 rw[if_neg s,ko]at h;have a:=aa8 e j i b f d (k:=k) t (by omega) h;simp only[not_or]at s;clear h t;refine mJ _ _ _ _ _ λg=>?_;simp[ak, *,jl,s];first | done | exact a
theorem D5 : ∃v,aK env 38 [m.val x]=some v/\Sl 1 (aQ (lB m l)) v:=by
 have I:=e.r;refine Ax (fn:=Tryz.f38) (c:=cF) (by kernel_rfl) (by kernel_rfl) (by kernel_rfl) (by kernel_rfl) (by kernel_rfl) ?_;refine ta _ _ _ λg=>?_;have s : ∀z H',yt H' ⟨0,1,0,0⟩ (m.bu x) (lB m l) z ->∃y,handed env 38 z H' y/\Sl 1 (aQ (lB m l)) y:=by
  intro z H' h;obtain⟨q,c,rfl,F,G⟩:=h.sb;refine⟨.cC 1 (aQ (lB m l)) c,by simp[G],?_⟩;rcases F with rfl | rfl
  ·exact Sl.mk _ _
  exact Sl.mkC (by simp)
 have w:yt [(⟨0,9,0,0⟩,some ⟨1,aQ [m.kind],true,false⟩),(⟨0,1,0,0⟩,some (m.bu x))] ⟨0,1,0,0⟩ (m.bu x) [m.kind] (.bO ⟨0,9,0,0⟩ 0 1 (some 1)):=⟨by simp(maxDischargeDepth:=12) [SJ, *],rfl,⟨⟨0,9,0,0⟩,some 1,rfl,.inr rfl,rfl⟩,by simp[AV.at?],by simp⟩;unfold nY;have A:lB m l=[m.kind]++((if m.kind=1 then [u8 m.user] else [])++r5 m.kind m l):=rfl;generalize lB m l=B at *;obtain⟨k,u,C,co,fr,to,a,t0,t1,t2,t3⟩:=m;simp only at A w;by_cases D:k=1;·subst D;rw[if_pos rfl]at A;subst A;have o:=λz H' t=>aa9 e j i b f d (k:=1) (x3:=z) (H:=H') (bs:=[1]++[u8 u]) t (by simp) (Q:=λv H =>∃y,handed env 38 v H y/\Sl 1 (aQ ([1]++([u8 u]++r5 1 ⟨1,u,C,co,fr,to,a,t0,t1,t2,t3⟩ l))) y) (by simpa only[il] using s);clear s;generalize (aQ ([1]++([u8 u]++r5 1 ⟨1,u,C,co,fr,to,a,t0,t1,t2,t3⟩ l)))=BB at *;unfold aD.val;unfold aD.bu at w o;simp only at w o;have E:=w.box;simp[ak, *, -AL];refine jd (v := .bO ⟨0,9,0,0⟩ 0 1 (some 1)) (H:=[(⟨0,9,0,0⟩,some ⟨1,aQ [1],true,false⟩),(⟨0,1,0,0⟩,some ⟨12,[.agg [a8 1,aI u,aI C,aI co,aI fr,aI to,a8 a,aI t0,aI t1,aI t2,aI t3,x]],false,false⟩)]) (by simp[aQ]) ?_;simp[ak, *, -AL];refine w.UM (n:=1) (nw:=[u8 u]) (by simp) (by simp) (λH=>by simp[aQ]) rfl λz H' t=>?_;exact o z H' t
 rw[if_neg D,ko]at A;subst A;have o:=aa9 e j i b f d (k:=k) w (by simp) s;clear s w;generalize (aQ ([k]++r5 k ⟨k,u,C,co,fr,to,a,t0,t1,t2,t3⟩ l))=BB at *;unfold aD.val;unfold aD.bu at o;simp only at o;simp[ak, *];first | done | exact o
end
end
section
attribute [local simp] a7 aL au aJ aH bF kV bc aA aN cw cu aY ba ah bG fG
def DY(l:List (bp × AV)):Prop:=l.length<=10 /\∀p∈l,p.1.l.length<=500
def RQ{x:AV}{l:List (bp × AV)}(o:Sl 17 (a6 l) x)(t : ∀p∈l,Sl 1 (rows p.1.l) p.2)(m:aD){r1:Ref}{H:ab}(C:H.get r1=some (m.bu x)){Q:AV->ab->Prop} :
 ∀(s:List (bp × AV)) (k:Nat) (i:Int),l.drop k=s->k<=l.length->i=k->k<=20->(∀p∈l.take k,p.1.l.length<=500)->(∀b,(b=false->DY l)->Q (aB b) H) ->
 bL env Tryz.f5 0 fU [(3,aI i),(1,.ptr r1 0 0)] H Q:=by
 intro s;have E:=o.len;induction s with
 | nil=>rintro k i hs hk rfl h20 hall hQ;obtain rfl:=drop_nil hs hk;rw[Bd]at hall;have u:=hQ (decide ((10:Int)<l.length)) (λh=>⟨by rw[iQd]at h;omega,hall⟩);clear hQ;unfold aD.bu at C;refine mG _ _ _ _ λg=>?_;simp[ak, *,eG];all_goals exact u
 | cons p s n=>
  rintro k i hs hk rfl h20 hall hQ;obtain⟨N,G,e,j⟩:=drop_cons hs;refine mG _ _ _ _ λg=>?_;unfold aD.bu at C;by_cases z:(k:Int)<20
  ·have hp:=t p (G ▸ kq _);have V:=iQa ((k:Int)+1) (by omega);have a:=λ(h:p.1.l.length<=500)=>n (k+1) ((k:Int)+1) e (by omega) (by simp) (by omega) (λq d=>by
    rw[Ki,j]at d;rcases jG.1 d with d | d
    ·exact hall q d
    simp at d;rw[d];exact h) hQ
   have f:=hp.r;have c:=hQ true (λh=>by cases h);clear n hQ hall hp t;obtain⟨⟨M,⟨K,I,L⟩,T,⟨⟨⟨J,P,O⟩,U⟩,v⟩,⟨⟨B,D,y⟩,A⟩,⟨w,F⟩,R⟩,W⟩:=p;simp only at a f;by_cases X:(500:Int)<R.length;·clear a;simp[ak, *,eG,o.idx,a6,kJ];all_goals exact c
   have a:=a (by omega);clear c;simp[ak, *,eG,o.idx,a6,kJ];all_goals exact a
  have S:(10:Int)<l.length:=(by omega);have c:=hQ true (λh=>by cases h);clear n hQ hall t;simp[ak, *,eG];all_goals exact c
def MH{x:AV}{l:List (bp × AV)}(e:Sl 17 (a6 l) x)(i : ∀p∈l,Sl 1 (rows p.1.l) p.2)(m:aD) : ∃y,aK env 5 [m.val x]=some y /\∃b,y=aB b/\(b=false->DY l):=by
 have j:=e.r;have a : ∀(Q:AV->ab->Prop),(∀b H,(b=false->DY l)->Q (aB b) H)->bL env Tryz.f5 0 [.code nU] (yQ 0 [m.val x]) [] Q:=by
  intro Q h;have f:=RQ e i m (r1:=⟨0,1,0,0⟩) (H:=[(⟨0,1,0,0⟩,some (m.bu x))]) rfl (Q:=Q) l 0 0 rfl (by omega) rfl (by omega) (by simp) (λb d=>h b _ d);clear h;refine s8 _ _ _ λg=>?_;unfold aD.bu at f;unfold aD.val;simp[ak, *,nW];all_goals exact f
 refine Jk (fn:=Tryz.f5) (c:=nU) rfl (by kernel_rfl) (by kernel_rfl) (by kernel_rfl) (by kernel_rfl) (a _ λb H d=>⟨aB b,by simp,b,rfl,d⟩)
def Qx{x:AV}{l:List (bp × AV)}(c:Sl 17 (a6 l) x)(f:l.length<=10)(h : ∀p∈l,uS p)(m:aD):aK env 15 [m.val x]=some (aB (decide (m.kind<=5)&&nA m l)):=by
 refine bo rfl (by kernel_rfl) (KD _ _ _ λg=>?_);have b:=Cf c f h m;have d:=c.r;unfold aD.val at *;cases a:nA m l with
 | false=>rw[a]at b;cases e:decide (m.kind<=5)<;>simp[ak, *,zA]
 | true=>rw[a]at b;cases e:decide (m.kind<=5)<;>simp[ak, *,zA]
end
section
attribute [local simp] a7 aL au aJ aH bF kV bc aA aN cw cu aY ba ah bG fG
attribute [local simp] wz
def zq{n:Int}(h:mX n=true):cnt n:=by simpa [mX,cnt] using h
def na{m:aD}{l:List (bp × AV)}(h:iD m l=true):Rng m/\qS l=true/\l.length<=3/\1<=m.kind/\m.kind<=10:=by
 unfold iD at h;split at h
 ·rename_i e;simp only[bD]at h;have b:=h.2.1;unfold G9 at b;simp only[bD,lI,iQb]at b;obtain⟨g,i,c,c0,c1,fr,to,⟨t0,t1,t2,t3⟩,o,f⟩:=b;refine⟨⟨zq t0,zq t1,zq t2,zq t3,zq to,zq fr,zq c,c0,c1⟩,?_,by omega,e⟩;rcases f with f | f
  ·simp[o]at f
  exact f
 cases h
section
variable{x:AV}{l:List (bp × AV)}(k:Sl 17 (a6 l) x)(o:l.length<100000)(f : ∀p∈l,uS p)(u : ∀p∈l,∀a∈p.1.l, -2147483648<=a/\a<=2147483647)(d : ∀p∈l,p.1.l.length<100000)(m:aD)
include k o f u d
theorem KT:aK env 14 [m.val x]=some (aI (if iD m l then 0 else 8)):=by
 have e:=z5 k o f u d m;have c:=k.r;refine bo rfl (by kernel_rfl) (s9 _ _ _ λg=>?_);clear f u d;unfold aD.val at *;generalize iD m l=b at *;cases b<;>simp[ak, *,nX]
theorem TD:aK env 16 [m.val x]=some (aB (iD m l&&decide (m.kind<=5))):=by
 have e:=z5 k o f u d m;have c:=k.r;refine bo rfl (by kernel_rfl) (wM _ _ _ λg=>?_);clear f u d;unfold aD.val at *;generalize iD m l=b at *;cases b<;>simp[ak, *,pC]
theorem Qz : ∃y,aK env 8 [m.val x]=some y/\((iD m l=true /\∃v,y = .tup [v,aI 0]/\Sl 1 (aQ (lB m l)) v)\/(iD m l=false/\y = .tup [a9,aI 8])):=by
 have j:=z5 k o f u d m;have s:=k.r;cases b:iD m l with
 | false=>refine⟨_,?_,.inr ⟨rfl,rfl⟩⟩;rw[b]at j;refine bo rfl (by kernel_rfl) (oW _ _ _ λg=>?_);clear f u d b;unfold aD.val at *;simp[ak, *,lD]
 | true=>obtain⟨i,h,e,_⟩:=na b;obtain⟨v,q,c⟩:=D5 k e f d h i;refine⟨.tup [v,aI 0],?_,.inl ⟨rfl,v,rfl,c⟩⟩;rw[b]at j;have n:=c.r;refine bo rfl (by kernel_rfl) (oW _ _ _ λg=>?_);clear f u d b i h;unfold aD.val at *;simp[ak, *,lD]
end
def yq(l:List (bp × AV)):List (bp × AV):=l.map λp=>(p.1,oR 1 (rows p.1.l))
@[simp] def CO(l:List (bp × AV)):(yq l).length=l.length:=by simp[yq]
def N4{p:bp × AV}(hp:uS p)(B:p.1.l.length<100000):aK env 35 [kJ p]=some (kJ (p.1,oR 1 (rows p.1.l))):=by
 obtain⟨⟨q,⟨w,s,n⟩,z,⟨⟨⟨v,y,t⟩,A⟩,b⟩,⟨⟨h,c,j⟩,e⟩,⟨g,i⟩,D⟩,C⟩:=p;exact Qm q w s n z v y t A b h c j e g i hp.1 B
section
variable{x:AV}{l:List (bp × AV)}(k:Sl 17 (a6 l) x)(o:l.length<=10)(f : ∀p∈l,uS p)(d : ∀p∈l,p.1.l.length<100000)(m:aD)
include k o f d
theorem Lw{r1 r2:Ref}(R:r1≠r2){Q:AV->ab->Prop}(N : ∀x3 H',Own 17 (a6 (yq l)) H' x3->Q (m.val x3) H') :
 ∀(s:List (bp × AV)) (j:Nat) (x3:AV) (H:ab),l.drop j=s->j<=l.length->Fr H->Own 17 (a6 (yq (l.take j))) H x3->H.get r1=some (m.bu x)->H.get r2=some ⟨12,[(aM 0).val a9],false,false⟩->x3.at?≠some r1->x3.at?≠some r2 ->
 bL env Tryz.f6 0 gB [(4,aI j),(1,.ptr r1 0 0),(3,x3),(2,.ptr r2 0 0)] H Q:=by
 intro s;induction s with
 | nil=>
  intro j x3 H X Y L y A F v h;obtain rfl:=drop_nil X Y;rw[Bd]at y;have E:=k.len;have hr:=k.r;have n21:=R.symm;have T:x3.cells=[x3]/\x3.one=true:=by
   rcases y with ⟨rfl,_⟩ | ⟨q,rfl,_⟩<;>exact⟨rfl,rfl⟩
  obtain⟨hc,ho⟩:=T;have w : ∀H',(∀q b,H.get q=some b->q≠r1->q≠r2->H'.get q=some b)->Q (m.val x3) H':=by
   intro H' hk;refine N x3 H' ?_;rcases y with ⟨rfl,e⟩ | ⟨q,rfl,V⟩
   ·exact .inl ⟨rfl,e⟩
   exact .inr ⟨q,rfl,hk q _ V (λe=>v (by rw[e];rfl)) (λe=>h (by rw[e];rfl))⟩
  have l1:(H.get r1).isSome=true:=by rw[A];rfl
  have l2:(H.get r2).isSome=true:=by rw[F];rfl
  have U:(∀r i j,lu x3 (.ptr r i j)=true)\/True := .inr trivial;unfold aD.bu at A;unfold aD.val aM at F;unfold aD.val at w;clear N f d U y;refine nu _ _ _ _ _ _ λg=>?_;simp[ak, *,jE,cK];exact w _ (λq b C e1 e2=>by simp[ab.get_put,e1,e2,C])
 | cons p s ih=>
  intro j x3 H X Y L y A F v h;obtain⟨hlt,hg,K,S⟩:=drop_cons X;have J:p∈l:=hg ▸ kq _;have hT:=N4 (f p J) (d p J);have hpr:=(f p J).1.r;have hOr:=(Ag 1 (rows p.1.l)).r;have e3:=iQa ((j:Int)+1) (by omega);have hltI:(j:Int)<l.length:=by omega
  have E:=k.len;have B:a6 (yq (l.take (j+1)))=a6 (yq (l.take j))++[kJ (p.1,oR 1 (rows p.1.l))]:=(by rw[Ki,S];simp only[a6,yq,xg,Option.toList_some,sW,Di]);have hn:H.get ⟨0,19,H.gen 0 19,0⟩=none:=L 0 19 _ 0 (aV _);have c : ∀q b,H.get q=some b->ab.get ((⟨0,19,H.gen 0 19,0⟩,some ⟨17,[kJ (p.1,oR 1 (rows p.1.l))],true,false⟩) :: H) q=some b:=λq b C=>by
   rw[ab.aZ,if_neg (λe=>by rw[<-e,hn]at C;cases C)];exact C
  have W:Fr ((⟨0,19,H.gen 0 19,0⟩,some ⟨17,[kJ (p.1,oR 1 (rows p.1.l))],true,false⟩) :: H):=lF L rfl _;have I:Own 17 (a6 (yq (l.take j))) ((⟨0,19,H.gen 0 19,0⟩,some ⟨17,[kJ (p.1,oR 1 (rows p.1.l))],true,false⟩) :: H) x3:=by
   rcases y with ⟨rfl,e⟩ | ⟨q,rfl,V⟩
   ·exact .inl ⟨rfl,e⟩
   exact .inr ⟨q,rfl,c _ _ V⟩
  obtain⟨s',H',a1,M,a3,G⟩:=E0 (P:=env.P) (t:=24) (t':=24) (z:=17) (by':=112) (by kernel_rfl) (by kernel_rfl) _ 0 20 I (MP (r:=⟨0,19,H.gen 0 19,0⟩) (n:=1) (by rw[ab.aZ,if_pos rfl]) rfl (some 1)) (by rw[BO,CO,kp,C9];show(_+_) * 112<=140737488355328;omega) W;rw[<-B]at M;have D:=ih (j+1) s' H' K (by omega) a3 M (G _ _ (c _ _ A) v).1 (G _ _ (c _ _ F) h).1 (G _ _ (c _ _ A) v).2 (G _ _ (c _ _ F) h).2;rw[show((j+1:Nat):Int)=(j:Int)+1 from by omega]at D;clear ih N f d J M G y I B c;unfold aD.bu at A;obtain⟨⟨a_1,⟨a_2,a_3,a_4⟩,a_5,⟨⟨⟨a_6,a_7,a_8⟩,a_9⟩,Z⟩,⟨⟨a_11,a_12,a_13⟩,a_14⟩,⟨a_15,a_16⟩,al⟩,xa⟩:=p;simp only[kJ]at hT a1;generalize oR 1 (rows al)=O at *;refine nu _ _ _ _ _ _ λg=>?_;simp[ak, *,jE,k.idx,a6,kJ];refine jd (by simpa using a1) ?_;simp[e3];exact D
theorem Oc : ∃z,aK env 6 [m.val x]=some (m.val z)/\Sl 17 (a6 (yq l)) z:=by
 have A:=k.r;have e : ∃y,aK env 6 [m.val x]=some y /\∃z,y=m.val z/\Sl 17 (a6 (yq l)) z:=by
  refine Ax (fn:=Tryz.f6) (c:=uO) (by kernel_rfl) (by kernel_rfl) (by kernel_rfl) (by kernel_rfl) (by kernel_rfl) ?_;refine tX _ _ _ λg=>?_;have i:=Lw k o f d m (r1:=⟨0,1,0,0⟩) (r2:=⟨0,2,0,0⟩) (by decide) (Q:=λv H =>∃y,handed env 6 v H y /\∃z,y=m.val z/\Sl 17 (a6 (yq l)) z) (λx3 H' h=>by
   obtain⟨z,b,j⟩:=h.view 7;refine⟨m.val z,?_,z,rfl,j⟩;have n:view H'.get 8 (m.val x3)=some (m.val z):=by
    unfold aD.val;have b:view H'.get 7 x3=some z:=by
     obtain⟨w,t,B⟩:=h.view 6;rcases h with ⟨rfl,_⟩ | ⟨q,rfl,s⟩
     ·simpa using b
     simp[s]at b ⊢;exact b
    simp[b]
   simpa using n) l 0 a9 [(⟨0,2,0,0⟩,some ⟨12,[(aM 0).val a9],false,false⟩),(⟨0,1,0,0⟩,some (m.bu x))] rfl (by omega) (by simp(maxDischargeDepth:=12) [SJ, *]) (Ae _ _) rfl rfl (by simp[AV.at?]) (by simp[AV.at?])
  unfold oM;clear f d;unfold aD.val at i ⊢;unfold aD.bu at i;simp only[aM]at i;simp[ak, *];first | done | exact i
 obtain⟨y,b,z,rfl,j⟩:=e;exact⟨z,b,j⟩
end
end
section
attribute [local simp] a7 aL au aJ aH bF kV bc aA aN cw cu aY ba ah bG fG
def Z5:bE env.P .eql 24 (.tmp 3) (.const (.slice none 0 0)) (some a9) (some a9)=some (aB true,[]):=by kernel_rfl
def J0(dep:Nat)(H:ab):cU env dep (.fn 41) [a9] H=some (a9,H):=by
 obtain⟨a,H2,b,rfl,rfl⟩ : ∃a H2,cU env dep (.fn 41) [a9] H=some (a,H2)/\a=a9/\H2=H:=by
  refine cQ (fn:=Tryz.f41) (c:=dJ) (by kernel_rfl) (by kernel_rfl) (by kernel_rfl) (by kernel_rfl) (by kernel_rfl) ?_ ?_;·refine dI _ _ _ _ λg=>?_;simp[ak, *,cy,Z5]
  rfl
 exact b
def J1(dep:Nat)(H:ab)(c:Option Nat):cU env dep (.fn 41) [.cC 17 [] c] H=some (.bO ⟨dep+1,5,H.gen (dep+1) 5,0⟩ 0 0 (some 0),(⟨dep+1,5,H.gen (dep+1) 5,0⟩,some ⟨17,[],true,false⟩) :: H):=by
 obtain⟨a,H2,b,rfl,rfl⟩ : ∃a H2,cU env dep (.fn 41) [.cC 17 [] c] H=some (a,H2)/\a = .bO ⟨dep+1,5,H.gen (dep+1) 5,0⟩ 0 0 (some 0)/\H2=(⟨dep+1,5,H.gen (dep+1) 5,0⟩,some ⟨17,[],true,false⟩) :: H:=by
  refine cQ (fn:=Tryz.f41) (c:=dJ) (by kernel_rfl) (by kernel_rfl) (by kernel_rfl) (by kernel_rfl) (by kernel_rfl) ?_ ?_;·refine dI _ _ _ _ λg=>?_;simp[ak, *,cy]
  rfl
 exact b
def UG{es:List AV}(a:es≠[])(b:es.length<1000000)(dep:Nat)(H:ab)(c:Option Nat):cU env dep (.fn 41) [.cC 17 es c] H=some (.dsl (xw 7 H) 0 es.length none,Sd 17 5 7 H es false):=by
 obtain⟨e,es,rfl⟩:=iQy a;refine ry.2 ⟨0,λm _=>?_⟩;have:env.thrSpec 41 [.cC 17 (e :: es) c] H=some (.dsl (xw 7 H) 0 (es.length+1) none,Sd 17 5 7 H (e :: es) false):=by
  show(if 41=41 then uJ 17 112 5 7 [.cC 17 (e :: es) c] H else none)=_;rw[if_pos rfl];simp only[lZ]at b;exact if_pos ⟨rfl,by decide,by simp only[aY];omega⟩
 unfold dM;simp only[this,lZ]
def TA(m:UInt8)(j:UInt8)(n:UInt32)(k:UInt8)(q:Int)(i:UInt8)(p:UInt32)(o:UInt8)(s:Int)(c:Int)(b:UInt8)(d:UInt32)(h:UInt8)(a:Int)(e:UInt8)(f:UInt32){l:List Int}(x:l.length<100000):aK env 42 [.agg [a8 m,a8 j,cH n,a8 k,aI q,a8 i,cH p,a8 o,aI s,aI c,a8 b,cH d,a8 h,aI a,a8 e,cH f,oR 1 (rows l)]]=some (.agg [a8 m,a8 j,cH n,a8 k,aI q,a8 i,cH p,a8 o,aI s,aI c,a8 b,cH d,a8 h,aI a,a8 e,cH f,ru 1 (rows l)]):=by
 have u:=N3 (Ag 1 (rows l)) (by omega) (by omega);have w:=(Ag 1 (rows l)).r;by_cases t:rows l=[];·rw[t]at u ⊢;rw[show oR 1 []=a9 from rfl]at *;rw[Sc]at u;refine bo rfl (by kernel_rfl) (DJ _ _ _ λg=>?_);simp[ak, *,zy]
 rw[qf 1 t]at *;rw[rr 1 t];rw[Gg 1 none t]at u;have v:(rows l).length=l.length:=by simp
 generalize rows l=rw' at *;refine bo rfl (by kernel_rfl) (DJ _ _ _ λg=>?_);simp[ak, *,zy]
def Ek{g:cb} : ∀ {a ys:List AV},F2 (DC g) a ys->ys.all pP=true->a=ys
 | [],[],_,_=>rfl
 | x :: a,y :: ys,h,hp=>by
  simp only[uU,bD]at hp;rcases h.1 with ⟨rfl,_⟩ | ⟨_,_,_,_,_,rfl,_⟩
  ·rw[Ek h.2 hp.2]
  cases hp.1
 | [],_ :: _,h,_=>h.elim
 | _ :: _,[],h,_=>h.elim
def OF(ol:List (bp × AV)):Prop :=∀p∈ol,p.2=oR 1 (rows p.1.l)/\p.1.l.length<100000
def Lh{p:bp × AV}(h:p.2=oR 1 (rows p.1.l)):(jS p.1++[p.2]).all pP=true:=by
 rw[h];unfold oR;split<;>rfl
def JL{g:cb}{l:List (bp × AV)}(h:OF l):F2 (DE g) (a6 l) (a6 l)/\(a6 l).flatMap eE=[]:=Q6 λe a=>by
 obtain⟨p,hp,rfl⟩:=lX.1 a;exact⟨jS p.1++[p.2],rfl,Lh (h p hp).1⟩
def sg(l:List (bp × AV))(k:Nat):List AV:=bV (l.take k)++a6 (l.drop k)
def Ga(l:List (bp × AV))(k:Nat)(h:k<=l.length):(sg l k).length=l.length:=by simp[sg];omega
def RN(l:List (bp × AV))(k:Nat)(h:k<l.length):(sg l k)[k]?=some (.agg (jS l[k].1++[l[k].2])):=by
 have a:(bV (l.take k)).length=k:=by simp;omega
 unfold sg;rw[hY (by omega),a,sD];simp[a6,h];rfl
def OV(l:List (bp × AV))(k:Nat)(h:k<l.length):(sg l k).set k (.agg (jS l[k].1++[ru 1 (rows l[k].1.l)]))=sg l (k+1):=by
 unfold sg;have a:(bV (l.take k)).length=k:=by simp;omega
 have b:l.drop k=l[k] :: l.drop (k+1):=Ku h;rw[C8 _ _ (by omega),a,sD,b];show bV (l.take k)++(kJ l[k] :: a6 (l.drop (k+1))).set 0 _=_;rw[yX,List.take_succ_eq_append_getElem h];unfold bV;rw[xg,il];rfl
end
section
attribute [local simp] a7 aL au aJ aH bF kV bc aA aN cw cu aY ba ah bG fG
attribute [local simp] wz
section
variable{b:List UInt8}{c:AV}(a:Sl 1 (aQ b) c)(d:b.length<1000000)
include a d
theorem Ji(fr many:Nat)(E:fr<=20)(G:many<=3){Q:AV->ab->Prop}{H:ab}(w:Q (aI (val ((b.drop fr).take many))) H) : ∀(n t j:Nat),t+n=many->j=fr+t ->
 bL env Tryz.f39 0 fA [(8,aI j),(0,c),(7,aI (val ((b.drop fr).take t))),(2,aI many),(1,aI fr)] H Q:=by
 intro n;have F:=iQa ((fr:Int)+many) (by omega);have u:=a.len;induction n with
 | zero=>
  intro t j l e;have v:(j:Int)=(fr:Int)+many:=by omega
  obtain rfl:t=many:=(by omega);clear e;refine iI _ _ _ _ _ _ _ λg=>?_;simp[ak, *,fF];done
 | succ n m=>
  intro t j l e;have A:(j:Int)<(fr:Int)+many:=by omega
  by_cases q:j<b.length
  ·have f:(j:Int)<b.length:=(by omega);have i:=m (t+1) (j+1) (by omega) (by omega);have s:(b.drop fr).take (t+1)=(b.drop fr).take t++[b[j]]:=(by subst e;rw[Ki,wZ,dh q];rfl);rw[s,zS,show((j+1:Nat):Int)=(j:Int)+1 from by omega]at i;have o:=ku ((b.drop fr).take t);have k:((b.drop fr).take t).length<=2:=by rw[kp];omega
   have hp:(256:Int) ^ ((b.drop fr).take t).length<=65536:=(by have:((b.drop fr).take t).length=0\/((b.drop fr).take t).length=1\/((b.drop fr).take t).length=2:=(by omega);rcases this with h | h | h<;>rw[h]<;>decide);have z:=(b[j]).toNat_lt;generalize val ((b.drop fr).take t)=vv at *;have C:=iQa (256 * vv) (by omega);have B:=iQa (256 * vv+(b[j]).toNat) (by omega);have D:=iQa ((j:Int)+1) (by omega);have x:dQ (aQ b) j 0 1 false=some (a8 b[j]):=(by simp[aQ,dQ,dh q]);have y:(j:Int)<(aQ b).length:=by rw[fh];exact f
   generalize b[j]=bj at *;clear m s w e l k hp o;refine iI _ _ _ _ _ _ _ λg=>?_;simp[ak, *,fF,a.idx];first | done | exact i
  have f : ¬(j:Int)<b.length:=(by omega);have p:(b.drop fr).take t=(b.drop fr).take many:=(by rw[fG (by rw[rP];omega),fG (by rw[rP];omega)]);rw[p];clear m e l p;refine iI _ _ _ _ _ _ _ λg=>?_;simp[ak, *,fF];done
theorem iX(fr many:Nat)(f:fr<=20)(h:many<=3):aK env 39 [c,aI fr,aI many]=some (aI (val ((b.drop fr).take many))):=by
 refine bo rfl (by kernel_rfl) (sx _ _ _ _ _ λg=>?_);have e:=Ji a d fr many f h (Q:=λv H=>handed env 39 v H (aI (val ((b.drop fr).take many)))) (H:=[]) (by simp) many 0 fr (by omega) (by omega);unfold nF;exact e
end
end
section
attribute [local simp] a7 aL au aJ aH bF kV bc aA aN cw cu aY ba ah bG fG
def frN{H:ab}(b:Fr H){d t:Nat}:H.get ⟨d,t,H.gen d t,0⟩=none:=b d t _ 0 (aV _)
def I7(o:bp):(jS o).length=16:=rfl
def Eb{es cs:List AV}{k:Nat}(h:es[k]?=some (.agg cs))(b:cs.length=17):dQ es k 0 17 true=some (.agg cs):=by
 have e:(AV.agg cs).cells=cs:=rfl;rw[K1 h (by rw[e];omega),e,uW,fG (by omega)]
def OE{cs new:List AV}(b:new.length=cs.length):patch cs 0 new=new:=by
 unfold patch;rw[List.take_zero,ko,qZ,b,Dk,mz]
def B9{es cs new:List AV}{k:Nat}(h:es[k]?=some (.agg cs))(b:new.length=cs.length):eA es k 0 new=some (es.set k (.agg new)):=by
 unfold eA;rw[h];show(pG (.agg cs) 0 new).map _=_;rw[sX,if_pos (by omega),OE b];rfl
def IF{es:List AV}{k:Nat}{e:AV}(h:es[k]?=some e):es.set k e=es:=by
 obtain⟨b,rfl⟩:=dB.1 h;exact List.set_getElem_self b
def Kz{es cs:List AV}{k:Nat}{v w:AV}{b:List AV}(h:es[k]?=some (.agg (cs++[w])))(d:cs.length=16)(c:eA es k 16 [v]=some b):eA es k 0 (cs++[v])=some b:=by
 rw[B9 h (by simp)];unfold eA at c;rw[h]at c;simp only[sX,eS,C9,d,aV,if_true,Option.map_some]at c;rw[<-c];have:patch (cs++[w]) 16 [v]=cs++[v]:=uw (X2:=[]) d;rw[this]
def OD(o:bp)(w v:AV):patch (jS o++[w]) 16 [v]=jS o++[v]:=uw (X2:=[]) rfl
def Qr{o:bp}(n:o.l.length<100000):aK env 42 [.agg (jS o++[oR 1 (rows o.l)])]=some (.agg (jS o++[ru 1 (rows o.l)])):=by
 obtain⟨k,⟨s,m,j⟩,v,⟨⟨⟨q,t,p⟩,u⟩,b⟩,⟨⟨f,c,h⟩,d⟩,⟨e,g⟩,w⟩:=o;exact TA k s m j v q t p u b f c h d e g n
section
variable{l:List (bp × AV)}(a:OF l)(n:l.length<1000000)
include a n
theorem S9(m:aD){r1 r2 r3:Ref}(n3:r1≠r2){Q:AV->ab->Prop} : ∀(j k:Nat)(H:ab)(rs:List Ref),k+j=l.length->Fr H->H.get r1=some (m.bu (.dsl r3 0 l.length none))->H.get r2=some ((aM 0).bu a9) ->
 j2 17 H r3 (sg l k) rs->r1 ∉ rs->r2 ∉ rs ->
 (∀H' rs,j2 17 H' r3 (bV l) rs->Q (m.val (.dsl r3 0 l.length none)) H') ->
 bL env Tryz.f11 0 kF [(12,aI k),(1,.ptr r1 0 0),(10,.dsl r3 0 l.length none),(2,.ptr r2 0 0),(11,aI l.length)] H Q:=by
 intro j;induction j with
 | zero=>
  intro k H rs u X V P D S O N;obtain rfl:k=l.length:=by omega
  have e:sg l l.length=bV l:=(by simp[sg,a6]);rw[e]at D;have n4:r2≠r1:=λe=>n3 e.symm;have u : ∀(b M:Option aP),j2 17 ((H.put r1 b).put r2 M) r3 (bV l) rs:=λb M=>D.bF λq F k u=>by
   rw[ab.get_put,if_neg (λe:q=r2=>O (by rw[<-e];exact F)),ab.get_put,if_neg (λe:q=r1=>S (by rw[<-e];exact F))];exact u
  have hk' : ∀(M:Option aP),j2 17 (H.put r2 M) r3 (bV l) rs:=λM=>D.bF λq F k u=>by
   rw[ab.get_put,if_neg (λe:q=r2=>O (by rw[<-e];exact F))];exact u
  have hQ':=λb M=>N _ rs (u b M);have hQ2:=λM=>N _ rs (hk' M);clear N u hk' D;refine mB _ _ _ _ _ _ _ λg=>?_;unfold aM at P;unfold aD.bu at V P;unfold aD.val at hQ' hQ2;simp[ak, *,kM,ab.get_put]
 | succ j ih=>
  intro k H rs u X V P D S O N;have hlt:k<l.length:=by omega
  obtain⟨hp1,hp2⟩:=a l[k] (kq _);have e3:=iQa ((k:Int)+1) (by omega);have y:=RN l k hlt;have f:=OV l k hlt;have w:=Qr hp2;have K:r3∈rs:=(by obtain⟨_,_,_,hrs,_⟩:=D;rw[hrs];simp);have u1:r3≠r1:=λe=>S (e ▸ K);have u2:r3≠r2:=λe=>O (e ▸ K);have u1':r1≠r3:=λe=>u1 e.symm;have u2':r2≠r3:=λe=>u2 e.symm;have G:=λH' rs=>ih (k+1) H' rs (by omega);rw[show((k+1:Nat):Int)=(k:Int)+1 from by omega]at G;generalize l[k]=p at *;obtain⟨o,xa⟩:=p;simp only at hp1 hp2 y f w;subst hp1;obtain⟨q,F⟩ : ∃q:Ref,q=⟨0,21,H.gen 0 21,0⟩:=⟨_,rfl⟩;obtain⟨b,L⟩ : ∃b:Ref,b=⟨0,4,H.gen 0 4,0⟩:=⟨_,rfl⟩;have h:H.get q=none:=by rw[F];exact frN X
  have A:H.get b=none:=by rw[L];exact frN X
  have qb:q≠b:=by rw[F,L];simp
  by_cases J:rows o.l=[]
  ·obtain⟨es,xs,I,g2,Y,W,g5⟩:=D.at y;have v:(jS o++[oR 1 (rows o.l)]).all pP=true:=by rw[J];rfl
   have T:=Ek W v;subst T;have C:=Eb Y rfl;rw[J]at f C w;have B:=B9 (new:=jS o++[a9]) Y rfl;have E:es.set k (.agg (jS o++[a9]))=es:=IF (by rw[Y,J];rfl);rw[E]at B;have hh:sg l (k+1)=sg l k:=(by rw[<-f];exact IF (by rw[y,J];rfl));have r3g:=I;have key : ∀c,bL env Tryz.f11 0 kF [(12,aI ((k:Int)+1)),(1,.ptr r1 0 0),(10,.dsl r3 0 l.length none),(2,.ptr r2 0 0),(11,aI l.length)] ((b,c) :: H.put r3 (some ⟨17,es,false,false⟩)) Q:=by
    intro c;obtain⟨H2,s⟩ : ∃H2:ab,H2=(b,c) :: H.put r3 (some ⟨17,es,false,false⟩):=⟨_,rfl⟩;have hg : ∀p,b≠p->H2.get p=H.get p:=λp hp=>by
     rw[s,ab.aZ,if_neg hp,ab.get_put];split;·rename_i e;rw[e,I]
     rfl
    have z : ∀p k,H.get p=some k->H2.get p=some k:=λp k u=>by rw[hg p (λe=>by rw[e]at A;rw[A]at u;cases u)];exact u
    rw[<-s];refine G H2 rs ?_ (z _ _ V) (z _ _ P) ?_ S O N;·rw[s,L];exact lF (d:=0) (t:=4) (kb X (by rw[I];rfl) _) (ab.fB _ _ _ (by rw[I];rfl) _ _).symm _
    rw[hh];exact D.bF λq _ b L=>z q b L
   clear ih G D W g5 y f hh S O K N E;obtain⟨a_1,⟨a_2,a_3,a_4⟩,a_5,⟨⟨⟨a_6,a_7,a_8⟩,a_9⟩,a_10⟩,⟨⟨a_11,a_12,a_13⟩,a_14⟩,⟨a_15,a_16⟩,al⟩:=o;refine mB _ _ _ _ _ _ _ λg=>?_;have hlen:es.length=l.length:=by rw[g2,Ga l k (by omega)]
   simp only[J,jS,GB,ko,oR,if_true,Em]at C w B v;unfold aD.bu at V P;simp only[L]at key;simp[ak, *,kM];done
  have hout:=f;rw[rr 1 J]at f w;obtain⟨es,U,I,g2,Y,W⟩:=D.set y (j:=16) (by simp[I7]) h 1 (by decide) (rows o.l) none;obtain⟨es',xs,Z,g5,g6,g7,_⟩:=D.at y;rw[I]at Z;cases Z;have v:(jS o++[oR 1 (rows o.l)]).all pP=true:=by rw[qf 1 J];rfl
  have T:=Ek g7 v;subst T;have C:=Eb g6 rfl;have B:=Kz g6 (I7 o) Y;rw[OD,f]at W;have v1:q≠r1:=λe=>by rw[e,V]at h;cases h
  have v2:q≠r2:=λe=>by rw[e,P]at h;cases h
  have v3:q≠r3:=λe=>by rw[e,I]at h;cases h
  have b3:b≠r3:=λe=>by rw[e,I]at A;cases A
  have bq:b≠q:=qb.symm;have key : ∀c,bL env Tryz.f11 0 kF [(12,aI ((k:Int)+1)),(1,.ptr r1 0 0),(10,.dsl r3 0 l.length none),(2,.ptr r2 0 0),(11,aI l.length)] ((q,some ⟨1,rows o.l,true,false⟩) :: (b,c) :: H.put r3 (some ⟨17,U,false,false⟩)) Q:=by
   intro c;obtain⟨H2,s⟩ : ∃H2:ab,H2=(q,some ⟨1,rows o.l,true,false⟩) :: (b,c) :: H.put r3 (some ⟨17,U,false,false⟩):=⟨_,rfl⟩;have hg : ∀p,b≠p->q≠p->p≠r3->H2.get p=H.get p:=λp hp F hr=>by
    rw[s,ab.aZ,if_neg F,ab.aZ,if_neg hp,ab.get_put,if_neg hr]
   have z : ∀p k,p≠r3->H.get p=some k->H2.get p=some k:=λp k hr u=>by rw[hg p (λe=>by rw[e]at A;rw[A]at u;cases u) (λe=>by rw[e]at h;rw[h]at u;cases u) hr];exact u
   obtain⟨rs1,a1,a2⟩:=W H2 (by rw[s,ab.aZ,if_neg v3,ab.aZ,if_neg b3,ab.get_put,if_pos rfl]) (by rw[s,ab.aZ,if_pos rfl]) z;rw[<-s];refine G H2 rs1 ?_ (z _ _ u1' V) (z _ _ u2' P) a1 (λhm=>?_) (λhm=>?_) N;·have hF1:Fr ((b,c) :: H.put r3 (some ⟨17,U,false,false⟩)):=(by rw[L];exact lF (d:=0) (t:=4) (kb X (by rw[I];rfl) _) (ab.fB _ _ _ (by rw[I];rfl) _ _).symm _);rw[s,F];refine lF (d:=0) (t:=21) hF1 ?_ _;rw[L,ab.AE,if_neg (by simp),ab.fB _ _ _ (by rw[I];rfl)]
   ·rcases a2 _ hm with e | e
    ·exact S e
    exact v1 e.symm
   rcases a2 _ hm with e | e
   ·exact O e
   exact v2 e.symm
  have hlen:es.length=l.length:=(by rw[g2,Ga l k (by omega)]);clear ih G D W g5 g7 y f hout S O K N h A bq qb;obtain⟨a_1,⟨a_2,a_3,a_4⟩,a_5,⟨⟨⟨a_6,a_7,a_8⟩,a_9⟩,a_10⟩,⟨⟨a_11,a_12,a_13⟩,a_14⟩,⟨a_15,a_16⟩,al⟩:=o;simp only at J w C B key v;rw[qf 1 J]at w C v;have hrl:(rows al).length=al.length:=by simp[rows]
  generalize rows al=R at *;simp only[jS,GB,ko]at C w B v;unfold aD.bu at V P;simp only[L,F,hrl]at key v1 v2 v3 b3 B;refine mB _ _ _ _ _ _ _ λg=>?_;simp[ak, *,kM];done
end
def Cm{f:FuncId}(c:bF.contains f=true){H:ab}{s:AV}{es':List AV}{rs:List Ref}(h:pn 17 H s es' rs)(m:aD):handed env f (m.val s) H (m.val (zi 17 s es')):=by
 obtain⟨b,j,d,g⟩:=h.out 4;have e:=h.nodup;rw[CW c];unfold aD.val;simp[b,d,e]
def Va(x:AV)(l:List (bp × AV)):AV:=match x with
 | .cC z [] _ => .fsl z [] (some 0)
 | .cC z _ _ => .nsl z (bV l) none
 | x=>x
def Ta{l:List (bp × AV)}{x:AV}(i:Sl 17 (a6 l) x):Kd 17 (bV l) (Va x l):=by
 rcases i with ⟨rfl,he⟩ | ⟨c,rfl,_⟩
 ·have:l=[]:=by simpa [a6] using he
  subst this;exact .inl ⟨rfl,rfl⟩
 cases l with| nil=>exact .inr (.inl ⟨rfl,rfl⟩)| cons p l=>exact .inr (.inr ⟨rfl,by simp[bV]⟩)
section
variable{l:List (bp × AV)}{x:AV}(i:Sl 17 (a6 l) x)(a:OF l)(n:l.length<1000000)
include i a n
theorem KR(m:aD):aK env 11 [m.val x]=some (m.val (Va x l)):=by
 refine bo rfl (by kernel_rfl) (GZ _ _ _ λg=>?_);rcases i.Z4 with ⟨rfl,he⟩ | ⟨c,rfl⟩
 ·have v:l=[]:=by simpa [a6] using he
  subst v;have t:=λH=>J0 0 H;have d:=bY (f:=41) (by kernel_rfl);unfold aD.val;simp[ak, *,rD,i.r,Va,d];refine mB _ _ _ _ _ _ _ λg=>?_;simp[ak, *,kM]
 by_cases p:l=[];·subst p;have t:=λH=>J1 0 H c;have d:=bY (f:=41) (by kernel_rfl);have o:a6 []=[]:=rfl;rw[o]at i ⊢;have b:=λ(r:Ref)(H:ab)(h:H.get r=some ⟨17,[],true,false⟩)=>Cm (f:=11) (by rfl) (H:=H) (s := .bO r 0 0 (some 0)) (es':=[]) (rs:=[r]) (.inr (.inl ⟨r,rfl,rfl,rfl,h⟩)) m;unfold aD.val at b ⊢;simp[ak, *,rD,i.r,Va,d];refine mB _ _ _ _ _ _ _ λg=>?_;simp[ak, *,kM, -CW]
 have u:a6 l≠[]:=(by simp[a6,p]);have j:=BO l;have t:=λH=>UG u (by simp;omega) 0 H c;have q:=bY (f:=41) (by kernel_rfl);have k:Va (.cC 17 (a6 l) c) l = .nsl 17 (bV l) none:=by
  cases l with| nil=>exact(p rfl).elim| cons _ _=>rfl
 have o:sg l 0=a6 l:=(by simp[sg,bV]);obtain⟨f1,f2⟩:=JL (g:=λ_=>none) a;have d:=λ(Q:AV->ab->Prop) r3 H rs=>S9 a n m (r1:=⟨0,1,0,0⟩) (r2:=⟨0,2,0,0⟩) (r3:=r3) (by simp) (Q:=Q) l.length 0 H rs (by omega);have e : ∀(H:ab) r3,H.get r3=some ⟨17,a6 l,false,false⟩->j2 17 H r3 (sg l 0) [r3]:=λH r3 h=>⟨a6 l,h,by rw[o];exact(JL a).1,by rw[f2],by simp⟩;have b : ∀(H':ab) r3 rs,j2 17 H' r3 (bV l) rs->handed env 11 (m.val (.dsl r3 0 l.length none)) H' (m.val (.nsl 17 (bV l) none)):=λH' r3 rs h=>by
  have:=Cm (f:=11) (by rfl) (h.row (by simp[bV,p])) m;rw[show(bV l).length=l.length by simp[bV]]at this;exact this
 rw[k];clear a o f1 f2 k;unfold aM at d;unfold aD.val at b ⊢;unfold aD.val at d;unfold aD.bu at d;generalize a6 l=es at *;simp only[j]at t;simp[ak, *,rD,i.r,q,Sd,xw];refine d _ _ _ [_] ?_ ?_ ?_ (e _ _ ?_) ?_ ?_ λH' rs h=>b H' _ rs h;·exact(by simp(maxDischargeDepth:=12) [SJ, *])
 all_goals simp
 done
end
end
section
attribute [local simp] a7 aL au aJ aH bF kV bc aA aN cw cu aY ba ah bG fG
attribute [local simp] wz
def lL:Nat->List UInt8->List (bp × AV)
 | 0,_=>[]
 | n+1,b=>if nD b then (fR b,lV (fR b).l) :: lL n (b.drop (jO b)) else []
section
variable{b:List UInt8}{f:AV}(d:Sl 1 (aQ b) f)(a:b.length<900000)
include d a
theorem Hu(many:Nat)(hm:many<=4){Q:AV->ab->Prop} : ∀(n t j:Nat)(c:List (bp × AV)) (i:AV) (H:ab),t+n=many->c.length=t->Fr H->Own 17 (a6 c) H i ->
 (∀i H',Own 17 (a6 (c++lL n (b.drop j))) H' i->Q i H')->j<=1000000 ->
 bL env Tryz.f40 0 eP [(7,i),(8,aI t),(1,aI j),(0,f),(2,aI many)] H Q:=by
 intro n;have hlen:=d.len;have hxr:=d.r;induction n with
 | zero=>
  intro t j c i H ht ha hF G p hj;obtain rfl:t=many:=by omega
  have k:=p i H (by simpa [lL] using G);clear p;refine gA _ _ _ _ _ _ _ λg=>?_;simp[ak, *,eR];done
 | succ n ih=>
  intro t j c i H ht ha hF G p hj;have htm:(t:Int)<many:=by omega
  by_cases hjl:j<=b.length
  ·have hjI:(j:Int)<=b.length:=(by omega);have hsf:=vo (P:=env.P) (t:=27) (z:=1) (by kernel_rfl) H.get d (n:=(j:Int)) (by omega) (by rw[fh];omega);obtain⟨xd,hxd,C⟩:=hsf;rw[show((j:Int)).toNat=j from by omega,show(aQ b).drop j=aQ (b.drop j) from by simp[aQ]]at C;have I:=Ty C (by rw[rP];omega);have hxdr:=C.r;unfold qj at I;cases E:nD (b.drop j) with
   | false=>
    rw[E,if_neg (by decide)]at I;unfold ni at I;have k : ∀H',Own 17 (a6 c) H' i->Q i H':=λH' h=>p i H' (by simpa [lL,E] using h);clear p ih E;refine gA _ _ _ _ _ _ _ λg=>?_;simp[ak, *,eR];refine k _ ?_;rcases G with ⟨rfl,e⟩ | ⟨q,rfl,R⟩
    ·exact .inl ⟨rfl,e⟩
    have lq:(H.get q).isSome=true:=by rw[R];rfl
    exact .inr ⟨q,by simp,by simp[dR,dS, *]⟩
   | true=>
    rw[E,if_pos rfl]at I;obtain⟨_,hop,J,M⟩:=uK E;rw[rP]at J;have k : ∀i H',Own 17 (a6 ((c++[(fR (b.drop j),lV (fR (b.drop j)).l)])++lL n (b.drop (j+jO (b.drop j))))) H' i->Q i H':=λi H' h=>p i H' (by
     rw[il]at h;have e:lL (n+1) (b.drop j)=(fR (b.drop j),lV (fR (b.drop j)).l) :: lL n (b.drop (j+jO (b.drop j))):=(by rw[lL,if_pos E,lY]);rw[e];exact h)
    have hrS:=qe (fR (b.drop j)).l;have D:=λi H' hF' h7'=>ih (t+1) (j+jO (b.drop j)) (c++[(fR (b.drop j),lV (fR (b.drop j)).l)]) i H' (by omega) (by simp[ha]) hF' h7' k (by omega);rw[show((t+1:Nat):Int)=(t:Int)+1 from by omega,show((j+jO (b.drop j):Nat):Int)=(j:Int)+(jO (b.drop j):Nat) from by omega]at D;have w1:=iQa ((j:Int)+(jO (b.drop j):Nat)) (by omega);have w2:=iQa ((t:Int)+1) (by omega);have hrr:=hrS.r;clear ih p k E hop J M;generalize jO (b.drop j)=sz at *;generalize fR (b.drop j)=o at *;generalize lV o.l=ro at *;obtain⟨Z,⟨W,O,Y⟩,U,⟨⟨⟨V,a_7,a_8⟩,a_9⟩,u⟩,⟨⟨y,A,w⟩,x⟩,⟨v,B⟩,al⟩:=o;simp only[jS,GB,ko]at I;obtain⟨L,T⟩ : ∃e,e=kJ (⟨Z,⟨W,O,Y⟩,U,⟨⟨⟨V,a_7,a_8⟩,a_9⟩,u⟩,⟨⟨y,A,w⟩,x⟩,⟨v,B⟩,al⟩,ro):=⟨_,rfl⟩;have N : ∀m:ab,Fr m->(∀q b,H.get q=some b->m.get q=some b) ->∃F H',dK env.P true ((⟨0,36,m.gen 0 36,0⟩,some ⟨17,[L],true,false⟩) :: m) ⟨0,37,ab.gen ((⟨0,36,m.gen 0 36,0⟩,some ⟨17,[L],true,false⟩) :: m) 0 37,0⟩ (some 24) (some 24) i (.bO ⟨0,36,m.gen 0 36,0⟩ 0 1 (some 1))=some (F,H')/\bL env Tryz.f40 0 eP [(7,F),(8,aI ((t:Int)+1)),(1,aI ((j:Int)+sz)),(0,f),(2,aI many)] H' Q:=by
     intro m S hk;have hn:m.get ⟨0,36,m.gen 0 36,0⟩=none:=S 0 36 _ 0 (aV _);obtain⟨F,H',X,a2,a3,a4⟩:=E0 (P:=env.P) (t:=24) (t':=24) (z:=17) (by':=112) (by kernel_rfl) (by kernel_rfl) ((⟨0,36,m.gen 0 36,0⟩,some ⟨17,[L],true,false⟩) :: m) 0 37 (es:=a6 c) (s:=i) (by
      rcases G with ⟨rfl,e⟩ | ⟨q,rfl,R⟩
      ·exact .inl ⟨rfl,e⟩
      exact .inr ⟨q,rfl,by rw[ab.aZ,if_neg (λe=>by rw[<-e]at R;rw[hk _ _ R]at hn;cases hn)];exact hk _ _ R⟩) (MP (r:=⟨0,36,m.gen 0 36,0⟩) (n:=1) (by rw[ab.aZ,if_pos rfl]) rfl (some 1)) (by rw[BO,C9];show(_+_) * 112<=140737488355328;omega) (lF S rfl _)
     refine⟨F,H',X,D F H' a3 ?_⟩;have e:a6 (c++[(⟨Z,⟨W,O,Y⟩,U,⟨⟨⟨V,a_7,a_8⟩,a_9⟩,u⟩,⟨⟨y,A,w⟩,x⟩,⟨v,B⟩,al⟩,ro)])=a6 c++[L]:=(by rw[T];simp only[a6,xg,sW,Di]);rw[e];exact a2
    clear D;have K:=N ((⟨0,9,H.gen 0 9,0⟩,some ⟨17,[L],false,false⟩) :: H) (lF hF rfl _) (λq b a=>by
     have hn:H.get ⟨0,9,H.gen 0 9,0⟩=none:=hF 0 9 _ 0 (aV _);rw[ab.aZ,if_neg (λe=>by rw[<-e,hn]at a;cases a)];exact a)
    obtain⟨F,H',X,a2⟩:=K;rw[T]at X;simp only[kJ]at X;clear N G;refine gA _ _ _ _ _ _ _ λg=>?_;simp[ak, *,eR,cK];refine jd (by simpa using X) ?_;simp[w1,w2];exact a2
  have hjI : ¬(j:Int)<=b.length:=(by omega);have he:lL (n+1) (b.drop j)=[]:=(by rw[Kq (by omega),lL,if_neg (by decide)]);have k:=p i H (by rw[he,mz];exact G);clear p ih he;refine gA _ _ _ _ _ _ _ λg=>?_;simp[ak, *,eR];done
theorem FO(fr many:Nat)(l:fr<=20)(j:many<=4) : ∃z,aK env 40 [f,aI fr,aI many]=some z/\Sl 17 (a6 (lL many (b.drop fr))) z:=by
 refine Ax (fn:=Tryz.f40) (c:=uN) (by kernel_rfl) (by kernel_rfl) (by kernel_rfl) (by kernel_rfl) (by kernel_rfl) ?_;refine tV _ _ _ _ _ λg=>?_;unfold oL;refine Hu d a many j many 0 fr [] a9 [] (by omega) rfl (by simp(maxDischargeDepth:=12) [SJ, *]) (Ae _ _) (λk H' h=>?_) (by omega);obtain⟨z,e,i⟩:=h.view 7;exact⟨z,by simpa using e,i⟩
end
def Cb(l:List UInt8) : ∀a∈words l, -2147483648<=a/\a<=2147483647:=by
 intro a e;match l,e with
 | a :: b :: c :: d :: t,e=>
  rcases dG.1 e with rfl | e
  ·unfold word;rw[iQu];have:=ku [a,b,c,d];simp only[lZ,oq]at this;omega
  exact Cb t _ e
def K2(b:List UInt8) : ∀a∈(fR b).l, -2147483648<=a/\a<=2147483647:=by
 intro a c;unfold fR at c;simp only at c;split at c;·exact Cb _ a c
 cases c
def zf : ∀(n:Nat)(b:List UInt8),∀p∈lL n b,my p.1=true/\p.2=lV p.1.l /\∀a∈p.1.l, -2147483648<=a/\a<=2147483647
 | 0,b=>λp hp=>by cases hp
 | n+1,b=>λp hp=>by
  rw[lL]at hp;split at hp
  ·rename_i c;rcases dG.1 hp with rfl | hp
   ·exact⟨(uK c).2.1,rfl,K2 b⟩
   exact zf n _ p hp
  cases hp
def Bw : ∀(n:Nat)(b:List UInt8),(lL n b).length<=n
 | 0,b=>aV _
 | n+1,b=>by
  rw[lL];split;·exact Nat.succ_le_succ (Bw n _)
  exact uT _
def eX(b:List UInt8)(fr many:Nat):Int:=val ((b.drop fr).take many)
def uH(b:List UInt8):aD:=let k:=b.headD 0
 if k=1 then { aM k with user:=eX b 1 1} else if k=3 then { aM k with fromN:=eX b 1 3} else if k=4 then { aM k with asked:=u8 (eX b 1 1)} else
 if k=6 then { aM k with code:=eX b 1 2} else if k=10 then { aM k with code:=eX b 1 2} else if k=7 then { aM k with serial:=eX b 1 3,code:=eX b 4 2} else
 if k=8 then { aM k with fromN:=eX b 1 3,total:=eX b 4 3} else if k=9 then { aM k with asked:=u8 (eX b 1 1),t0:=eX b 2 3,t1:=eX b 5 3,t2:=eX b 8 3,t3:=eX b 11 3} else aM k
def tw(b:List UInt8):List (bp × AV):=let k:=b.headD 0
 if k=2 then lL 1 (b.drop 1) else if k=8 then lL (min (eX b 7 1).toNat 4) (b.drop 8) else []
def tx(b:List UInt8):Option (aD × List (bp × AV)):=if b=[] then none else if iD (uH b) (tw b)=true/\lB (uH b) (tw b)=b then some (uH b,tw b) else none
def Hs(r:Option (aD × List (bp × AV)))(y:AV):Prop:=match r with
 | some (m,l) =>∃z,y = .tup [m.val z,aI 0]/\Sl 17 (a6 l) z
 | none=>y = .tup [(aM 0).val a9,aI 90]
section
variable{b:List UInt8}{i:AV}(j:Sl 1 (aQ b) i)(f:b.length<900000)
include j f
theorem Xr{m:aD}{l:List (bp × AV)}{z:AV}(G:Sl 17 (a6 l) z)(U:l.length<=10)(t : ∀p∈l,uS p)(x : ∀p∈l,∀a∈p.1.l, -2147483648<=a/\a<=2147483647)(n : ∀p∈l,p.1.l.length<100000){r2 y:Ref}(I:r2≠y){H:ab}(C:H.get y=some (m.bu z))(D:H.get r2=some ⟨12,[(aM 0).val a9],false,false⟩){Q:AV->ab->Prop}
 (o:iD m l=true->lB m l=b ->∀H',Q (.tup [m.val z,aI 0]) H') (k : ¬(iD m l=true/\lB m l=b) ->∀H',Q (.tup [(aM 0).val a9,aI 90]) H') :
 bL env Tryz.f10 0 ax [(2,.ptr r2 0 0),(4,.ptr y 0 0),(0,i)] H Q:=by
 have q:=z5 G (by omega) t x n m;have M:=G.r;have O:=I.symm;have d : ∀ {l:List UInt8} {v:AV},Sl 1 (aQ l) v ->∀g r,bM env.P g r 27 9 (some v)=some (sB l,[]):=by
  intro l v h g r;refine EO (by simp) (by simp) (h.Fa g) ?_;rcases h with ⟨rfl,_⟩ | ⟨c,rfl,_⟩<;>intro s e<;>cases e
 have R:=d j;have S:(H.get y).isSome=true:=by rw[C];rfl
 have T:(H.get r2).isSome=true:=by rw[D];rfl
 cases f:iD m l with| false=>rw[f]at q;have u:=k (λh=>by rw[f]at h;cases h.1);clear o k t x n f d;unfold aD.val aM at D u;unfold aD.val at q;unfold aD.bu at C;refine jw _ _ _ _ _ λg=>?_;simp[ak, *,gI,cK];done| true=>
  rw[f]at q;obtain⟨J,F,E,_⟩:=na f;obtain⟨v,K,w⟩:=D5 G E t n F J;have L:=d w;have N:=w.r;by_cases A:lB m l=b;·have u:=o f A;rw[A]at L;clear o k t x n f d A J F;unfold aD.val aM at D;unfold aD.val at u q K;unfold aD.bu at C;refine jw _ _ _ _ _ λg=>?_;simp[ak, *,gI,cK];done
  have u:=k (λh=>A h.2);clear o k t x n f d J F;generalize lB m l=B at *;unfold aD.val aM at D u;unfold aD.val at q K;unfold aD.bu at C;refine jw _ _ _ _ _ λg=>?_;simp[ak, *,gI,cK];done
end
end
section
attribute [local simp] a7 aL au aJ aH bF kV bc aA aN cw cu aY ba ah bG fG
def Fb{m:List Int}{k:Nat}(h:k<m.length)(v:Int):eA (rows m) k 0 [aR v]=some (rows (m.set k v)):=by
 unfold eA rows;rw[lJ,dh h];show some ((m.map aR).set k (aR v))=_;rw[iQW]
def TI{m:List Int}{k:Nat}(h:k<m.length):dQ (rows m) k 0 1 false=some (aR m[k]):=by
 unfold dQ rows;rw[lJ,dh h];rfl
def Ft(p:bp × AV)(l:List Int):bp × AV:=({ p.1 with l:=l},p.2)
def WS(p:bp × AV):bp × AV:=({ p.1 with serial := -7},p.2)
def IN{L:List (bp × AV)}{k:Nat}{p:bp × AV}(hp:L[k]?=some p):(bV L)[k]?=some (.agg (jS p.1++[ru 1 (rows p.1.l)])):=by
 unfold bV;rw[lJ,hp];rfl
def FU{H:ab}{r:Ref}{L:List (bp × AV)}{rs:List Ref}(h:j2 17 H r (bV L) rs){k:Nat}{p:bp × AV}(hp:L[k]?=some p) :
 ∃es cell,H.get r=some ⟨17,es,false,false⟩/\es.length=L.length/\dQ es k 16 1 false=some cell/\((cell=a9/\p.1.l=[])\/(p.1.l≠[] /\∃q,cell = .bO q 0 p.1.l.length none/\H.get q=some ⟨1,rows p.1.l,true,false⟩/\q∈rs/\q≠r /\
  ∀a:List Int,a.length=p.1.l.length->j2 17 (H.put q (some ⟨1,rows a,true,false⟩)) r (bV (L.set k (Ft p a))) rs)):=by
 have c:=IN hp;by_cases d:p.1.l=[]
 ·obtain⟨es,xs,u,D,t,f,_⟩:=h.at c;have B:rows p.1.l=[]:=by rw[d];rfl
  rw[B,Em]at f;obtain⟨x,E,N⟩:=F2.at f (i:=16) (y:=a9) rfl;refine⟨es,x,u,by rw[D,gO],by rw[Ec t E],.inl ⟨?_,d⟩⟩;rcases N with ⟨w,_⟩ | ⟨_,_,_,_,_,w,_⟩
  ·exact w
  cases w
 have B:rows p.1.l≠[]:=by simpa [rows] using d
 rw[rr 1 B]at c;obtain⟨es,xs,q,u,D,t,f,G,I,M,J⟩:=h.acX c (j:=16) rfl;have g:(rows p.1.l).length=p.1.l.length:=by simp[rows]
 refine⟨es,_,u,by rw[D,gO],Ec t f,.inr ⟨d,q,by rw[g],G,I,M,λa b=>?_⟩⟩;have:=J (rows a) (by simp[rows,b]);have C:a≠[]:=λe=>by rw[e]at b;exact d (wc.1 b.symm)
 have K:AV.agg ((jS p.1++[AV.fsl 1 (rows p.1.l) none]).set 16 (AV.fsl 1 (rows a) none)) = .agg (jS (Ft p a).1++[ru 1 (rows (Ft p a).1.l)]):=(by show _=AV.agg (jS p.1++[ru 1 (rows a)]);rw[rr 1 (by simpa [rows] using C)];rfl);rw[K]at this;have F:(bV L).set k (.agg (jS (Ft p a).1++[ru 1 (rows (Ft p a).1.l)]))=bV (L.set k (Ft p a)):=by unfold bV;rw[iQW]
 rw[F]at this;exact this
def T7{H:ab}{r:Ref}{L:List (bp × AV)}{rs:List Ref}(h:j2 17 H r (bV L) rs){k:Nat}{p:bp × AV}(hp:L[k]?=some p) :
 ∃es a,H.get r=some ⟨17,es,false,false⟩/\es.length=L.length/\eA es k 4 [aI (-7)]=some a/\j2 17 (H.put r (some ⟨17,a,false,false⟩)) r (bV (L.set k (WS p))) rs:=by
 obtain⟨es,a,c,f,e,b⟩:=h.plain (IN hp) (j:=4) (w:=aI p.1.serial) rfl rfl (v:=aI (-7)) rfl;refine⟨es,a,c,by rw[f,gO],e,?_⟩;have d:(bV L).set k (.agg ((jS p.1++[ru 1 (rows p.1.l)]).set 4 (aI (-7))))=bV (L.set k (WS p)):=by unfold bV;rw[iQW];rfl
 rw[d]at b;exact b
def Nk{H:ab}{s:AV}{L:List (bp × AV)}{rs:List Ref}{n i:Nat}{p:bp × AV}(f:pn 17 H s (bV L) rs)(e:L.length=n)(hp:L[i]?=some p) : ∃r,s = .dsl r 0 n none/\j2 17 H r (bV L) rs:=by
 rcases f with ⟨_,h,_⟩ | ⟨_,_,h,_⟩ | ⟨r',es,b,j,g,a,d,c⟩
 ·have:L=[]:=by simpa [bV] using h
  rw[this]at hp;cases hp
 ·have:L=[]:=by simpa [bV] using h
  rw[this]at hp;cases hp
 exact⟨r',by rw[b,a.len,gO,e],es,g,a,d,c⟩
def XS(H0 H:ab)(rs:List Ref):Prop :=∀q b,q ∉ rs->H0.get q=some b->H.get q=some b
section
variable{m:aD}{s:AV}{rs:List Ref}{H0:ab}{r1:Ref}{dep n:Nat}{Q:AV->ab->Prop}(A:n<1000000)(o:r1 ∉ rs)
 (z : ∀H,Fr H->XS H0 H rs->Q (.v (.tuple #[])) H)
include A o z
theorem P5{i:Nat}(hi:i<n)(d : ∀(H:ab)(L:List (bp × AV)),Fr H->H.get r1=some (m.bu s)->pn 17 H s (bV L) rs->L.length=n->(∀p∈L,p.1.l.length<1000000)->XS H0 H rs ->
 bL env Tryz.f18 (dep+1) eF [(2,aI ((i:Int)+1)),(1,.ptr r1 0 0)] H Q) :
 ∀(j k:Nat)(H:ab)(L:List (bp × AV)) (p:bp × AV),L[i]?=some p->k+j=p.1.l.length->Fr H->H.get r1=some (m.bu s)->pn 17 H s (bV L) rs->L.length=n->(∀p∈L,p.1.l.length<1000000)->XS H0 H rs ->
 bL env Tryz.f18 (dep+1) fX [(3,aI k),(2,aI i),(1,.ptr r1 0 0)] H Q:=by
 intro j;have hiI:(i:Int)<n:=by omega
 have e3:=iQa ((i:Int)+1) (by omega);induction j with
 | zero=>
  rintro k H L p hp hk hF h1 hd hl hb hS;obtain⟨r,rfl,c⟩:=Nk hd hl hp;obtain⟨es,cell,S,M,g3,I⟩:=FU c hp;obtain⟨es',N,B,_,X,y⟩:=T7 c hp;rw[S]at B;cases B;have G:r∈rs:=by
   obtain⟨_,_,_,e,_⟩:=c;rw[e];simp
  have Y:r1≠r:=λe=>o (e ▸ G);have hr':=Y.symm;have hil:i<L.length:=(dB.1 hp).1;have a:(L.set i (WS p)).length=n:=by simp[hl]
  have f:=y.row (λe=>by
   have:=iQh List.length e;rw[gO,a]at this;simp at this;omega)
  rw[gO,a]at f;have U:=d (H.put r (some ⟨17,N,false,false⟩)) _ (kb hF (by rw[S];rfl) _) (by rw[ab.get_put,if_neg Y];exact h1) f a (λt T=>by
   rcases GP T with h | h
   ·exact hb t h
   rw[h];exact hb p (dk hp)) (λq b C x=>by rw[ab.get_put,if_neg (λe:q=r=>C (by rw[e];exact G))];exact hS q b C x)
  have F:pz cell=some k/\cell.cells=[cell]/\cell.one=true:=by
   rcases I with ⟨rfl,h⟩ | ⟨_,q,rfl,_⟩
   ·have:k=0:=by rw[h]at hk;simpa using hk
    subst this;exact⟨rfl,rfl,rfl⟩
   have:k=p.1.l.length:=(by omega);subst this;exact⟨rfl,rfl,rfl⟩
  obtain⟨c1,c2,c3⟩:=F;rw[hl]at M;unfold aD.bu at h1;clear I d z hS hd c hb hp y f a;refine mM _ _ _ _ _ _ λg=>?_;simp[ak, *,jm,cK];first | done | exact U
 | succ j Z=>
  rintro k H L p hp hk hF h1 hd hl hb hS;obtain⟨r,rfl,c⟩:=Nk hd hl hp;obtain⟨es,cell,S,M,g3,I⟩:=FU c hp;rcases I with ⟨_,h⟩ | ⟨hne,q,rfl,X,y,g7,g8⟩
  ·rw[h]at hk;simp at hk
  have E:k<p.1.l.length:=(by omega);have hltI:(k:Int)<p.1.l.length:=(by omega);have J:=hb p (dk hp);have e4:=iQa ((k:Int)+1) (by omega);have P:=TI E;obtain⟨v,hv⟩ : ∃v,v=IntKind.i32.wrap (p.1.l[k]+1):=⟨_,rfl⟩;have O:=Fb E v;have q1:q≠r1:=λe=>o (by rw[<-e];exact y);have K:r1≠q:=λe=>q1 e.symm;have w:=g8 (p.1.l.set k v) (by simp);have a:(L.set i (Ft p (p.1.l.set k v))).length=n:=by simp[hl]
  have V:i<L.length:=(dB.1 hp).1;have f:=w.row (λe=>by
   have:=iQh List.length e;rw[gO,a]at this;simp at this;omega)
  rw[gO,a]at f;have D:=Z (k+1) (H.put q (some ⟨1,rows (p.1.l.set k v),true,false⟩)) _ (Ft p (p.1.l.set k v)) (by rw[FH V]) (by simp[Ft];omega) (kb hF (by rw[X];rfl) _) (by rw[ab.get_put,if_neg K];exact h1) f a (λt T=>by
   rcases GP T with h | h
   ·exact hb t h
   rw[h];simp[Ft,J]) (λq' b C x=>by rw[ab.get_put,if_neg (λe=>C (by rw[e];exact y))];exact hS q' b C x)
  rw[show((k+1:Nat):Int)=(k:Int)+1 from by omega]at D;rw[hl]at M;clear g8 d z hS hd c w hb hp Z f a;refine mM _ _ _ _ _ _ λg=>?_;have hrl:(rows p.1.l).length=p.1.l.length:=by simp[rows]
  generalize rows (p.1.l.set k v)=W at *;generalize rows p.1.l=R at *;simp only[aR]at O P;generalize p.1.l[k]=u at *;subst hv;unfold aD.bu at h1;simp[ak, *,jm,cK];first | done | exact D
theorem NW : ∀(j i:Nat)(H:ab)(L:List (bp × AV)),i+j=n->Fr H->H.get r1=some (m.bu s)->pn 17 H s (bV L) rs->L.length=n->(∀p∈L,p.1.l.length<1000000)->XS H0 H rs ->
 bL env Tryz.f18 (dep+1) eF [(2,aI i),(1,.ptr r1 0 0)] H Q:=by
 intro j;induction j with
 | zero=>
  intro i H L hi x u k w t q;have h:=k.len;rw[gO,w]at h;have E:=z H x q;obtain rfl:i=n:=by omega
  obtain⟨c1,F⟩:=qG k;unfold aD.bu at u;clear z k q t;refine mN _ _ _ _ _ λg=>?_;simp[ak, *,jn];first | done | exact E
 | succ j C=>
  intro i H L hi x u k w t q;have h:=k.len;rw[gO,w]at h;have y:i<n:=by omega
  have B:(i:Int)<n:=(by omega);obtain⟨p,hp⟩ : ∃p,L[i]?=some p:=⟨_,dh (by omega)⟩;have D:=P5 (dep:=dep) A o z y (λH L a b c d e f=>by
   have:=C (i+1) H L (by omega) a b c d e f;rw[show((i+1:Nat):Int)=(i:Int)+1 from by omega]at this;exact this) p.1.l.length 0 H L p hp (by omega) x u k w t q
  rw[show((0:Nat):Int)=0 from rfl]at D;obtain⟨c1,F⟩:=qG k;unfold aD.bu at u;clear z k q C t;refine mN _ _ _ _ _ λg=>?_;simp[ak, *,jn];first | done | exact D
end
def Mw{m:aD}{s:AV}{L:List (bp × AV)}{rs:List Ref}{H:ab}{dep:Nat}(f:pn 17 H s (bV L) rs)(C:L.length<1000000)(d : ∀p∈L,p.1.l.length<1000000)(t:Fr H){K:AV->ab->Prop}
 (k : ∀H',Fr H'->XS H H' rs->K (.v (.tuple #[])) H'):jF (cU env dep (.fn 18) [m.val s] H) K:=by
 obtain⟨i,H2,x,rfl,D,w⟩ : ∃i H2,cU env dep (.fn 18) [m.val s] H=some (i,H2)/\i = .v (.tuple #[])/\Fr H2/\XS H H2 rs:=by
  refine cQ (fn:=Tryz.f18) (c:=tz) (by kernel_rfl) (by kernel_rfl) (by kernel_rfl) (by kernel_rfl) (by kernel_rfl) ?_ ?_
  ·obtain⟨r1,o⟩ : ∃r:Ref,r=⟨dep+1,1,H.gen (dep+1) 1,0⟩:=⟨_,rfl⟩;have A:H.get r1=none:=by rw[o];exact frN t
   have u:r1 ∉ rs:=λh=>by
    obtain⟨b,d⟩:=f.live _ h;rw[A]at d;cases d
   have j : ∀p b,H.get p=some b->ab.get ((r1,some (m.bu s)) :: H) p=some b:=λp b hp=>by
    rw[ab.aZ,if_neg (λe=>by rw[<-e,A]at hp;cases hp)];exact hp
   have h:=NW (m:=m) (H0:=H) (r1:=r1) (dep:=dep) (n:=L.length) (Q:=λy H2=>y = .v (.tuple #[])/\Fr H2/\XS H H2 rs) C u (λH2 a b=>⟨rfl,a,b⟩) L.length 0 ((r1,some (m.bu s)) :: H) L (by omega)
    (by rw[o];exact lF t rfl _) (by rw[ab.aZ,if_pos rfl]) (f.bF λp _ b d=>j p b d) rfl d (λq b _ B=>j q b B)
   rw[show((0:Nat):Int)=0 from rfl,o]at h;unfold aD.bu at h;obtain⟨c1,E⟩:=qG f;clear f j u k d;refine ti _ _ _ _ λg=>?_;unfold aD.val;simp[ak, *,oc];first | done | exact h
  rfl
 exact jd x (k H2 D w)
end
section
attribute [local simp] a7 aL au aJ aH bF kV bc aA aN cw cu aY ba ah bG fG
attribute [local simp] wz
def O5(b:List UInt8) : ∀p∈tw b,my p.1=true/\p.2=lV p.1.l /\∀a∈p.1.l, -2147483648<=a/\a<=2147483647:=by
 unfold tw;simp only;split;·exact zf _ _
 split;·exact zf _ _
 exact λp hp=>by cases hp
def R4(b:List UInt8):(tw b).length<=4:=by
 unfold tw;simp only;split;·have:=Bw 1 (b.drop 1);omega
 split;·have:=Bw (min (eX b 7 1).toNat 4) (b.drop 8);omega
 exact uT _
def EE{p:bp × AV}(h:my p.1=true):p.1.l.length<100000:=by
 rcases(lT h)with ⟨_,_,_,_,a,⟨_,_,_,h,_⟩ | ⟨_,_,_,h⟩ | ⟨_,_,h,_⟩⟩
 ·omega
 ·rw[h];simp
 rw[h];simp
def BE(b:List UInt8)(fr many:Nat):0<=eX b fr many:=(ku _).1
section
variable{b:List UInt8}{f:AV}(d:Sl 1 (aQ b) f)(i:b.length<900000)
include d i
theorem QA : ∃y,aK env 10 [f]=some y/\Hs (tx b) y:=by
 refine Ax (fn:=Tryz.f10) (c:=lC) (by kernel_rfl) (by kernel_rfl) (by kernel_rfl) (by kernel_rfl) (by kernel_rfl) ?_;refine vd _ _ _ λg=>?_;have F:=d.len;have V:=d.r;by_cases o:b=[];·have e:tx b=none:=if_pos o;rw[e];subst o;have D : ∀H,∃y,handed env 10 (.tup [(aM 0).val a9,aI 90]) H y/\Hs none y:=λH=>⟨_,by unfold aD.val;simp,rfl⟩;unfold aD.val aM at D;clear e D;simp[ak, *,bz,cK,d.idx];exact rfl
 have n1:aK env 39 [f,aI 1,aI 1]=some (aI (eX b 1 1)):=iX d (by omega) 1 1 (by omega) (by omega);have n2:aK env 39 [f,aI 1,aI 3]=some (aI (eX b 1 3)):=iX d (by omega) 1 3 (by omega) (by omega);have G:aK env 39 [f,aI 1,aI 2]=some (aI (eX b 1 2)):=iX d (by omega) 1 2 (by omega) (by omega);have X:aK env 39 [f,aI 4,aI 2]=some (aI (eX b 4 2)):=iX d (by omega) 4 2 (by omega) (by omega);have T:aK env 39 [f,aI 4,aI 3]=some (aI (eX b 4 3)):=iX d (by omega) 4 3 (by omega) (by omega);have Q:aK env 39 [f,aI 7,aI 1]=some (aI (eX b 7 1)):=iX d (by omega) 7 1 (by omega) (by omega);have L:aK env 39 [f,aI 2,aI 3]=some (aI (eX b 2 3)):=iX d (by omega) 2 3 (by omega) (by omega);have J:aK env 39 [f,aI 5,aI 3]=some (aI (eX b 5 3)):=iX d (by omega) 5 3 (by omega) (by omega);have U:aK env 39 [f,aI 8,aI 3]=some (aI (eX b 8 3)):=iX d (by omega) 8 3 (by omega) (by omega);have w:aK env 39 [f,aI 11,aI 3]=some (aI (eX b 11 3)):=iX d (by omega) 11 3 (by omega) (by omega);obtain⟨E,r1,s1⟩:=FO d i 1 1 (by omega) (by omega);obtain⟨u,r2,s2⟩:=FO d i 8 (min (eX b 7 1).toNat 4) (by omega) (by omega);have n:=O5 b;have a : ∀z,Sl 17 (a6 (tw b)) z ->∀H:ab,H.get ⟨0,4,0,0⟩=some ((uH b).bu z)->H.get ⟨0,2,0,0⟩=some ⟨12,[(aM 0).val a9],false,false⟩ ->
  bL env Tryz.f10 0 ax [(2,.ptr ⟨0,2,0,0⟩ 0 0),(4,.ptr ⟨0,4,0,0⟩ 0 0),(0,f)] H λv H =>∃y,handed env 10 v H y/\Hs (tx b) y:=by
  intro z s H C B;have x:=s.r;refine Xr d i s (by have:=R4 b;omega) (λp hp=>⟨by rw[(n p hp).2.1];exact qe _,by have:=EE (n p hp).1;omega⟩) (λp hp=>(n p hp).2.2) (λp hp=>EE (n p hp).1) (by decide) C B (λS B H'=>?_) (λh H'=>?_)
  ·refine⟨.tup [(uH b).val z,aI 0],by unfold aD.val;simp[x],?_⟩;have e:tx b=some (uH b,tw b):=by rw[tx,if_neg o,if_pos ⟨S,B⟩]
   rw[e];exact⟨z,rfl,s⟩
  refine⟨.tup [(aM 0).val a9,aI 90],by unfold aD.val;simp,?_⟩;have e:tx b=none:=by rw[tx,if_neg o,if_neg h]
  rw[e];rfl
 obtain⟨k,t,rfl⟩:=iQy o;have R:dQ (aQ (k :: t)) 0 0 1 false=some (a8 k):=rfl;have P : ¬((t.length:Int)+1=0):=by omega
 have W:(0:Int)<(t.length:Int)+1:=(by omega);have j:Sl 17 (a6 []) a9 := .inl ⟨rfl,rfl⟩;clear n o i;by_cases k1:k=1;·subst k1;have l:uH (1 :: t) = { aM 1 with user:=eX (1 :: t) 1 1}:=rfl;have m:tw (1 :: t)=[]:=rfl;rw[l,m]at a;replace a:=a a9 j;generalize eX (1 :: t) 1 1=q0 at *;generalize tx (1 :: t)=DG at *;clear l m r1 r2 s1 s2;simp only[aD.bu,aD.val,aM]at a;simp[ak, *,bz,cK,d.idx];first | done | (refine a _ ?_ ?_<;>rfl)
 by_cases M:k=3;·subst M;have l:uH (3 :: t) = { aM 3 with fromN:=eX (3 :: t) 1 3}:=rfl;have m:tw (3 :: t)=[]:=rfl;rw[l,m]at a;replace a:=a a9 j;generalize eX (3 :: t) 1 3=q0 at *;generalize tx (3 :: t)=DG at *;clear l m r1 r2 s1 s2;simp only[aD.bu,aD.val,aM]at a;simp[ak, *,bz,cK,d.idx];first | done | (refine a _ ?_ ?_<;>rfl)
 by_cases Y:k=4;·subst Y;have l:uH (4 :: t) = { aM 4 with asked:=u8 (eX (4 :: t) 1 1)}:=rfl;have m:tw (4 :: t)=[]:=rfl;rw[l,m]at a;replace a:=a a9 j;generalize eX (4 :: t) 1 1=q0 at *;generalize tx (4 :: t)=DG at *;clear l m r1 r2 s1 s2;simp only[aD.bu,aD.val,aM]at a;simp[ak, *,bz,cK,d.idx];first | done | (refine a _ ?_ ?_<;>rfl)
 by_cases k6:k=6;·subst k6;have l:uH (6 :: t) = { aM 6 with code:=eX (6 :: t) 1 2}:=rfl;have m:tw (6 :: t)=[]:=rfl;rw[l,m]at a;replace a:=a a9 j;generalize eX (6 :: t) 1 2=q0 at *;generalize tx (6 :: t)=DG at *;clear l m r1 r2 s1 s2;simp only[aD.bu,aD.val,aM]at a;simp[ak, *,bz,cK,d.idx];first | done | (refine a _ ?_ ?_<;>rfl)
 by_cases q:k=10;·subst q;have l:uH (10 :: t) = { aM 10 with code:=eX (10 :: t) 1 2}:=rfl;have m:tw (10 :: t)=[]:=rfl;rw[l,m]at a;replace a:=a a9 j;generalize eX (10 :: t) 1 2=q0 at *;generalize tx (10 :: t)=DG at *;clear l m r1 r2 s1 s2;simp only[aD.bu,aD.val,aM]at a;simp[ak, *,bz,cK,d.idx];first | done | (refine a _ ?_ ?_<;>rfl)
 by_cases I:k=7;·subst I;have l:uH (7 :: t) = { aM 7 with serial:=eX (7 :: t) 1 3,code:=eX (7 :: t) 4 2}:=rfl;have m:tw (7 :: t)=[]:=rfl;rw[l,m]at a;replace a:=a a9 j;generalize eX (7 :: t) 1 3=q0 at *;generalize eX (7 :: t) 4 2=q1 at *;generalize tx (7 :: t)=DG at *;clear l m r1 r2 s1 s2;simp only[aD.bu,aD.val,aM]at a;simp[ak, *,bz,cK,d.idx];first | done | (refine a _ ?_ ?_<;>rfl)
 by_cases N:k=9;·subst N;have l:uH (9 :: t) = { aM 9 with asked:=u8 (eX (9 :: t) 1 1),t0:=eX (9 :: t) 2 3,t1:=eX (9 :: t) 5 3,t2:=eX (9 :: t) 8 3,t3:=eX (9 :: t) 11 3}:=rfl;have m:tw (9 :: t)=[]:=rfl;rw[l,m]at a;replace a:=a a9 j;generalize eX (9 :: t) 1 1=q0 at *;generalize eX (9 :: t) 11 3=q1 at *;generalize eX (9 :: t) 2 3=q2 at *;generalize eX (9 :: t) 5 3=q3 at *;generalize eX (9 :: t) 8 3=q4 at *;generalize tx (9 :: t)=DG at *;clear l m r1 r2 s1 s2;simp only[aD.bu,aD.val,aM]at a;simp[ak, *,bz,cK,d.idx];first | done | (refine a _ ?_ ?_<;>rfl)
 by_cases O:k=2;·subst O;have l:uH (2 :: t)=aM 2:=rfl;have m:tw (2 :: t)=lL 1 ((2 :: t).drop 1):=rfl;rw[l,m]at a;replace a:=a E s1;have K:=s1.r;generalize tx (2 :: t)=DG at *;clear l m r2 s2;simp only[aD.bu,aD.val,aM]at a;have r1':aK env 40 [f,aI 1,aI 1]=some E:=r1;generalize lL 1 ((2 :: t).drop 1)=RL at *;simp[ak, *,bz,cK,d.idx];first | done | (refine a _ ?_ ?_<;>rfl)
 by_cases Z:k=8
 ·subst Z;have l:uH (8 :: t) = { aM 8 with fromN:=eX (8 :: t) 1 3,total:=eX (8 :: t) 4 3}:=rfl;have m:tw (8 :: t)=lL (min (eX (8 :: t) 7 1).toNat 4) ((8 :: t).drop 8):=rfl;rw[l,m]at a;replace a:=a u s2;have K:=s2.r;have h0:=BE (8 :: t) 7 1;generalize tx (8 :: t)=DG at *;clear l m r1 s1 s2;simp only[aD.bu,aD.val,aM]at a;generalize lL (min (eX (8 :: t) 7 1).toNat 4) ((8 :: t).drop 8)=RL at *;generalize eX (8 :: t) 7 1=q7 at *;generalize eX (8 :: t) 1 3=q1 at *;generalize eX (8 :: t) 4 3=q4 at *;by_cases C:4<q7;·have e:min q7.toNat 4=4:=(by omega);rw[e]at r2;have A:aK env 40 [f,aI 8,aI 4]=some u:=r2;clear r2 e;simp[ak, *,bz,cK,d.idx];first | done | (refine a _ ?_ ?_<;>rfl)
  have e:((min q7.toNat 4:Nat):Int)=q7:=(by omega);rw[e]at r2;have A:aK env 40 [f,aI 8,aI q7]=some u:=r2;clear r2 e;simp[ak, *,bz,cK,d.idx];first | done | (refine a _ ?_ ?_<;>rfl)
 have l:uH (k :: t)=aM k:=(by simp[uH, *]);have m:tw (k :: t)=[]:=(by simp[tw, *]);rw[l,m]at a;replace a:=a a9 j;generalize tx (k :: t)=DG at *;clear l m r1 r2 s1 s2 n1 n2 G X T Q L J U w;simp only[aD.bu,aD.val,aM]at a;simp[ak, *,bz,cK,d.idx];first | done | (refine a _ ?_ ?_<;>rfl)
end
end
section
def BD : ∀(n:Nat){l f:List UInt8}{m c:aD}{a ol:List (bp × AV)},vx n (some (l,m,a))=some (f,c,ol)->c=m/\ol=a++lL n l
 | 0,l,f,m,c,a,ol,h=>by
  injection h with h
  injection h with d b
  injection b with b i
  subst d;subst b;subst i;exact⟨rfl,by simp[lL]⟩
 | n+1,l,f,m,c,a,ol,h=>by
  show _/\_=a++(if nD l then _ else _);cases g:nD l with
  | false=>have e:I8 (some (l,m,a))=none:=(by simp[I8,g]);rw[vx,e,FX]at h;cases h
  | true=>have e:I8 (some (l,m,a))=some (l.drop (jO l),m,a++[(fR l,lV (fR l).l)]):=(by simp[I8,g]);rw[vx,e]at h;obtain⟨d,b⟩:=BD n h;refine⟨d,?_⟩;rw[b,if_pos rfl];simp
def z8{many:Nat}{set:aD->Int->aD}{l d:List UInt8}{m c:aD}{a ol:List (bp × AV)}(h:rN many set (some (l,m,a))=some (d,c,ol)):many<=l.length/\d=l.drop many/\c=set m (val (l.take many))/\ol=a:=by
 simp only[rN,cR]at h;split at h;·cases h
 injection h with h
 injection h with e b
 injection b with b f
 exact⟨by omega,e.symm,b.symm,f.symm⟩
def FT{many:Nat}{set:aD->Int->aD}{st:AY}{c:List UInt8}{b:aD}{ol:List (bp × AV)}(h:rN many set st=some (c,b,ol)) : ∃l m a,st=some (l,m,a)/\many<=l.length/\c=l.drop many/\b=set m (val (l.take many))/\ol=a:=by
 cases st with| none=>cases h| some s=>obtain⟨l,m,a⟩:=s;exact⟨l,m,a,rfl,z8 h⟩
def Nc{b:List UInt8}{m:aD}{ol:List (bp × AV)}(h:getM b=some (m,ol)):uH b=m/\tw b=ol:=by
 cases b with| nil=>cases h| cons k l=>
  have h:(match qC k.toNat (some (l,aM k,[]))with | some (g,m,ol)=>if g=[] then (if jV k.toNat m ol then some (m,ol) else none) else none | none=>none)=some (m,ol):=h;cases a:qC k.toNat (some (l,aM k,[])) with
  | none=>rw[a]at h;cases h
  | some s=>
   obtain⟨g,i,c⟩:=s;rw[a]at h;simp only at h;split at h
   ·split at h
    ·injection h with h
     injection h with o e
     subst o;subst e;have y:k=UInt8.ofNat k.toNat:=by simp
     have u:=k.toNat_lt;have E:k=1\/k=2\/k=3\/k=4\/k=5\/k=6\/k=7\/k=8\/k=9\/k=10:=by
      by_cases n:kE k.toNat=none;·rw[zl n]at a;cases a
      have:1<=k.toNat/\k.toNat<=10:=by
       unfold kE at n;split at n;·exact absurd rfl n
       split at n;·omega
       exact absurd rfl n
      have:k.toNat=1\/k.toNat=2\/k.toNat=3\/k.toNat=4\/k.toNat=5\/k.toNat=6\/k.toNat=7\/k.toNat=8\/k.toNat=9\/k.toNat=10:=(by omega);rcases this with h | h | h | h | h | h | h | h | h | h<;>rw[y,h]<;>simp
     clear y u;rcases E with rfl | rfl | rfl | rfl | rfl | rfl | rfl | rfl | rfl | rfl
     ·have a:rN 1 (λm v => { m with user:=v}) (some (l,aM 1,[]))=some (g,i,c):=a;obtain⟨_,_,d,f⟩:=z8 a;exact⟨d.symm,f.symm⟩
     ·have a:vx 1 (some (l,aM 2,[]))=some (g,i,c):=a;obtain⟨o,e⟩:=BD 1 a;exact⟨o.symm,by rw[e];rfl⟩
     ·have a:rN 3 (λm v => { m with fromN:=v}) (some (l,aM 3,[]))=some (g,i,c):=a;obtain⟨_,_,d,f⟩:=z8 a;exact⟨d.symm,f.symm⟩
     ·have a:rN 1 (λm v => { m with asked:=u8 v}) (some (l,aM 4,[]))=some (g,i,c):=a;obtain⟨_,_,d,f⟩:=z8 a;exact⟨d.symm,f.symm⟩
     ·have a:some (l,aM 5,([]:List (bp × AV)))=some (g,i,c):=a;injection a with a
      injection a with o e
      injection e with e d
      exact⟨e,d⟩
     ·have a:rN 2 (λm v => { m with code:=v}) (some (l,aM 6,[]))=some (g,i,c):=a;obtain⟨_,_,d,f⟩:=z8 a;exact⟨d.symm,f.symm⟩
     ·have a:rN 2 (λm v => { m with code:=v}) (rN 3 (λm v => { m with serial:=v}) (some (l,aM 7,[])))=some (g,i,c):=a;obtain⟨z,x,w,e,_,_,d,f⟩:=FT a;obtain⟨_,p,t,q⟩:=z8 e;subst p;subst t;subst q;subst d;subst f;exact⟨rfl,rfl⟩
     ·have a:sO (rN 3 (λm v => { m with total:=v}) (rN 3 (λm v => { m with fromN:=v}) (some (l,aM 8,[]))))=some (g,i,c):=a;cases e:rN 3 (λm v => { m with total:=v}) (rN 3 (λm v => { m with fromN:=v}) (some (l,aM 8,[]))) with
      | none=>rw[e]at a;cases a
      | some s=>
       obtain⟨z,x,w⟩:=s;rw[e]at a;obtain⟨S,K,O,d,_,p,t,q⟩:=FT e;obtain⟨_,f1,f2,f3⟩:=z8 d;subst p;subst t;subst q;subst f1;subst f2;subst f3;simp only[sO,cR]at a;split at a;·cases a
       split at a;·cases a
       rename_i R;obtain⟨P,G⟩:=BD _ a;refine⟨P.symm,?_⟩;rw[G];have F:List.drop 3 (List.drop 3 l)=List.drop 6 l:=by rw[lY]
       rw[F]at R ⊢;have j:eX (8 :: l) 7 1=val ((List.drop 6 l).take 1):=rfl;have H:=BE (8 :: l) 7 1;show lL (min (eX (8 :: l) 7 1).toNat 4) ((8 :: l).drop 8)=[]++lL _ _;rw[ko,j];rw[j]at H;rw[show min (val ((List.drop 6 l).take 1)).toNat 4=(val ((List.drop 6 l).take 1)).toNat from by omega,lY];rfl
     ·have a:rN 3 (λm v => { m with t3:=v}) (rN 3 (λm v => { m with t2:=v}) (rN 3 (λm v => { m with t1:=v}) (rN 3 (λm v => { m with t0:=v}) (rN 1 (λm v => { m with asked:=u8 v}) (some (l,aM 9,[]))))))=some (g,i,c):=a;obtain⟨z,x,w,e,_,_,x3,T⟩:=FT a;obtain⟨S,K,O,d,_,C,I,Q⟩:=FT e;obtain⟨W,Y,a4,f,_,M,A,B⟩:=FT d;obtain⟨X,Z,V,U,_,J,D,L⟩:=FT f;obtain⟨_,v2,N,v4⟩:=z8 U;subst v2;subst N;subst v4;subst J;subst D;subst L;subst M;subst A;subst B;subst C;subst I;subst Q;subst x3;subst T;refine⟨?_,rfl⟩;simp only[lY];rfl
     have a:rN 2 (λm v => { m with code:=v}) (some (l,aM 10,[]))=some (g,i,c):=a;obtain⟨_,_,d,f⟩:=z8 a;exact⟨d.symm,f.symm⟩
    cases h
   cases h
def Hj : ∀ {l:List (bp × AV)},qS l=true->mv l=(lM l,false)
 | [],_=>rfl
 | p :: l,h=>by
  have h:(my p.1&&qS l)=true:=h;rw[bD]at h;show(if my p.1 then _ else _)=_;rw[if_pos h.1,Hj h.2];rfl
def YR(l:List (bp × AV)):List (bp × AV):=l.map λp=>(p.1,lV p.1.l)
def Hk : ∀ {l:List (bp × AV)} (rest:List UInt8) (m:aD) (a:List (bp × AV)),qS l=true->vx l.length (some (lM l++rest,m,a))=some (rest,m,a++YR l)
 | [],rest,m,a,_=>by simp[vx,lM,YR]
 | p :: l,rest,m,a,h=>by
  have h:(my p.1&&qS l)=true:=h;rw[bD]at h;obtain⟨r1,r2,r3⟩:=On h.1 (lM l++rest);have e:lM (p :: l)++rest=ck p.1++(lM l++rest):=by simp[lM]
  have b:I8 (some (lM (p :: l)++rest,m,a))=some (lM l++rest,m,a++[(p.1,lV p.1.l)]):=(by rw[e];simp only[I8,cR,r1,r2,r3,if_true];rw[<-oA h.1,List.drop_left]);rw[lZ,vx,b,Hk rest m _ h.2];simp[YR]
def QK{k:Nat}{n:Int}(d:0<=n)(c:n<256 ^ k)(set:aD->Int->aD)(rest:List UInt8)(m:aD)(a:List (bp × AV)):rN k set (some (be k n++rest,m,a))=some (rest,set m n,a):=by
 have b:(be k n).length=k:=EY k n;simp only[rN,cR];rw[if_neg (by rw[eS];omega),xe b,zI b,Bp d c]
def Uo(l:List (bp × AV)):(YR l).map (·.1)=l.map (·.1):=by simp[YR]
structure E6 (m:aD) (l:List (bp × AV)):Prop where
 bytes:lB m l=m.kind :: (eK m.kind.toNat m l).1
 good:(eK m.kind.toNat m l).2=false
 many:uA m l=true
 may:jV m.kind.toNat m l=true
 kind:(kE m.kind.toNat).isSome=true
 back:getM (m.kind :: (eK m.kind.toNat m l).1)=some (m,YR l)
def kz{m:aD}{l:List (bp × AV)}(h:iD m l=true):AP m l=true/\G9 m l=true/\Lz m l=true:=by
 unfold iD at h;split at h;·simpa [bD] using h
 cases h
def KO{l:List (bp × AV)}(h:dx l []=true):l=[]:=by
 cases l with| nil=>rfl| cons p l=>cases h
def qn{m:aD}{l:List (bp × AV)}(h:iD m l=true):oJ m=aM m.kind/\uQ m.kind l=[]:=by
 have a:=(kz h).1;unfold AP at a;rw[bD]at a;exact⟨IG a.2,KO a.1⟩
def Rp{m:aD}{l:List (bp × AV)}(h:iD m l=true):0<=m.user/\m.user<=255:=by
 have a:=(kz h).2.1;unfold G9 at a;simp only[bD,iQb]at a;exact⟨a.1,a.2.1⟩
def qi{k:UInt8}{l:List UInt8}{m:aD}{ol:List (bp × AV)}(h:qC k.toNat (some (l,aM k,[]))=some ([],m,ol))(b:jV k.toNat m ol=true):getM (k :: l)=some (m,ol):=by
 show(match qC k.toNat (some (l,aM k,[]))with | some (a,m,ol)=>if a=[] then (if jV k.toNat m ol then some (m,ol) else none) else none | none=>none)=_;rw[h];simp only[if_true,b]
def ML(a:UInt8)(set:aD->Int->aD)(rest:List UInt8)(m:aD)(ac:List (bp × AV)):rN 1 set (some ([a]++rest,m,ac))=some (rest,set m a.toNat,ac):=by
 simp[rN,val,zT]
def Vt{n:Int}(h:cnt n):bt 3 n=false:=by
 have a:=h.1;have b:=h.2;simp[bt,a];omega
def K3{n:Int}(h:cnt n)(set:aD->Int->aD)(rest:List UInt8)(m:aD)(a:List (bp × AV)):rN 3 set (some (be 3 n++rest,m,a))=some (rest,set m n,a):=QK h.1 (by have:=h.2;simpa using this) set rest m a
def Vj{n:Int}(h:cnt n)(set:aD->Int->aD)(m:aD)(a:List (bp × AV)):rN 3 set (some (be 3 n,m,a))=some ([],set m n,a):=by
 have:=K3 h set [] m a;rwa [mz]at this
def QL{n:Int}(c:0<=n)(b:n<65536)(set:aD->Int->aD)(m:aD)(a:List (bp × AV)):rN 2 set (some (be 2 n,m,a))=some ([],set m n,a):=by
 have:=QK (k:=2) c (by simpa using b) set [] m a;rwa [mz]at this
def nb2{n:Int}(a:0<=n)(b:n<65536):bt 2 n=false:=by
 simp[bt,a];omega
def aag{l:List (bp × AV)}{u d e fr to t0 t1 t2 t3:Int}{a:UInt8}(h:iD ⟨1,u,d,e,fr,to,a,t0,t1,t2,t3⟩ l=true):E6 ⟨1,u,d,e,fr,to,a,t0,t1,t2,t3⟩ l:=by
 obtain⟨o,i,n,_⟩:=na h;obtain⟨c,g⟩:=qn h;have j:=(kz h).2.2;obtain rfl:l=[]:=g;simp[oJ,sR,ND,L0,Ke,xM,wQ,vM,aM]at c;obtain⟨rfl,rfl,rfl,rfl,rfl,rfl,rfl,rfl,rfl⟩:=c;obtain⟨b,f⟩:=Rp h;simp only at b f;refine⟨rfl,?_,rfl,rfl,rfl,qi ?_ rfl⟩;·show bt 1 u=false;simp[bt,b];omega
 show rN 1 (λm v => { m with user:=v}) (some (be 1 u,aM 1,[]))=_;have:=QK (k:=1) b (by simp;omega) (λm v => { m with user:=v}) [] (aM 1) [];rwa [mz]at this
def aae{l:List (bp × AV)}{u c d fr to t0 t1 t2 t3:Int}{a:UInt8}(h:iD ⟨3,u,c,d,fr,to,a,t0,t1,t2,t3⟩ l=true):E6 ⟨3,u,c,d,fr,to,a,t0,t1,t2,t3⟩ l:=by
 obtain⟨e,g,j,_⟩:=na h;obtain⟨b,f⟩:=qn h;have i:=(kz h).2.2;obtain rfl:l=[]:=f;simp[oJ,sR,ND,L0,Ke,xM,wQ,vM,aM]at b;obtain⟨rfl,rfl,rfl,rfl,rfl,rfl,rfl,rfl,rfl⟩:=b;refine⟨rfl,Vt e.fromN,rfl,rfl,rfl,qi ?_ rfl⟩;exact Vj e.fromN (λm v => { m with fromN:=v}) (aM 3) []
def aad{l:List (bp × AV)}{u d e fr to t0 t1 t2 t3:Int}{a:UInt8}(h:iD ⟨4,u,d,e,fr,to,a,t0,t1,t2,t3⟩ l=true):E6 ⟨4,u,d,e,fr,to,a,t0,t1,t2,t3⟩ l:=by
 obtain⟨k,i,j,_⟩:=na h;obtain⟨c,g⟩:=qn h;have f:=(kz h).2.2;obtain rfl:l=[]:=g;simp[oJ,sR,ND,L0,Ke,xM,wQ,vM,aM]at c;obtain⟨rfl,rfl,rfl,rfl,rfl,rfl,rfl,rfl,rfl⟩:=c;have b:jV 4 ⟨4,0,0,0,0,0,a,0,0,0,0⟩ []=true:=f;refine⟨rfl,rfl,rfl,b,rfl,qi ?_ b⟩;have:=ML a (λm v => { m with asked:=u8 v}) [] (aM 4) [];simp only[PT]at this;exact this
def aac{l:List (bp × AV)}{u c d fr to t0 t1 t2 t3:Int}{a:UInt8}(h:iD ⟨5,u,c,d,fr,to,a,t0,t1,t2,t3⟩ l=true):E6 ⟨5,u,c,d,fr,to,a,t0,t1,t2,t3⟩ l:=by
 obtain⟨j,f,i,_⟩:=na h;obtain⟨b,e⟩:=qn h;have g:=(kz h).2.2;obtain rfl:l=[]:=e;simp[oJ,sR,ND,L0,Ke,xM,wQ,vM,aM]at b;obtain⟨rfl,rfl,rfl,rfl,rfl,rfl,rfl,rfl,rfl,rfl⟩:=b;exact⟨rfl,rfl,rfl,rfl,rfl,qi rfl rfl⟩
def aab{l:List (bp × AV)}{u d e fr to t0 t1 t2 t3:Int}{a:UInt8}(h:iD ⟨6,u,d,e,fr,to,a,t0,t1,t2,t3⟩ l=true):E6 ⟨6,u,d,e,fr,to,a,t0,t1,t2,t3⟩ l:=by
 obtain⟨b,g,j,_⟩:=na h;obtain⟨c,f⟩:=qn h;have i:=(kz h).2.2;obtain rfl:l=[]:=f;simp[oJ,sR,ND,L0,Ke,xM,wQ,vM,aM]at c;obtain⟨rfl,rfl,rfl,rfl,rfl,rfl,rfl,rfl,rfl⟩:=c;refine⟨by simp[lB,r5,r7,r9,Vl,QM,Vk,lM,eK],nb2 b.c0 b.c1,rfl,rfl,rfl,qi ?_ rfl⟩;exact QL b.c0 b.c1 (λm v => { m with code:=v}) (aM 6) []
def W1{l:List (bp × AV)}{u d e fr to t0 t1 t2 t3:Int}{a:UInt8}(h:iD ⟨10,u,d,e,fr,to,a,t0,t1,t2,t3⟩ l=true):E6 ⟨10,u,d,e,fr,to,a,t0,t1,t2,t3⟩ l:=by
 obtain⟨b,g,j,_⟩:=na h;obtain⟨c,f⟩:=qn h;have i:=(kz h).2.2;obtain rfl:l=[]:=f;simp[oJ,sR,ND,L0,Ke,xM,wQ,vM,aM]at c;obtain⟨rfl,rfl,rfl,rfl,rfl,rfl,rfl,rfl,rfl⟩:=c;refine⟨by simp[lB,r5,r7,r9,Vl,QM,Vk,lM,eK],nb2 b.c0 b.c1,rfl,rfl,rfl,qi ?_ rfl⟩;exact QL b.c0 b.c1 (λm v => { m with code:=v}) (aM 10) []
def aaa{l:List (bp × AV)}{u c e fr to t0 t1 t2 t3:Int}{a:UInt8}(h:iD ⟨7,u,c,e,fr,to,a,t0,t1,t2,t3⟩ l=true):E6 ⟨7,u,c,e,fr,to,a,t0,t1,t2,t3⟩ l:=by
 obtain⟨b,j,k,_⟩:=na h;obtain⟨f,i⟩:=qn h;have g:=(kz h).2.2;obtain rfl:l=[]:=i;simp[oJ,sR,ND,L0,Ke,xM,wQ,vM,aM]at f;obtain⟨rfl,rfl,rfl,rfl,rfl,rfl,rfl,rfl⟩:=f;have d:jV 7 ⟨7,0,c,e,0,0,0,0,0,0,0⟩ []=true:=by simpa [Lz,jV] using g
 refine⟨by simp[lB,r5,r7,r9,Vl,QM,Vk,lM,eK],?_,rfl,d,rfl,qi ?_ d⟩;·show(bt 3 c||bt 2 e)=false;rw[Vt b.serial,nb2 b.c0 b.c1];rfl
 show rN 2 (λm v => { m with code:=v}) (rN 3 (λm v => { m with serial:=v}) (some (be 3 c++be 2 e,aM 7,[])))=_;rw[K3 b.serial,QL b.c0 b.c1];rfl
def Z8{l:List (bp × AV)}{u e f fr to t0 t1 t2 t3:Int}{a:UInt8}(h:iD ⟨9,u,e,f,fr,to,a,t0,t1,t2,t3⟩ l=true):E6 ⟨9,u,e,f,fr,to,a,t0,t1,t2,t3⟩ l:=by
 obtain⟨b,j,k,_⟩:=na h;obtain⟨d,i⟩:=qn h;have g:=(kz h).2.2;obtain rfl:l=[]:=i;simp[oJ,sR,ND,L0,Ke,xM,wQ,vM,aM]at d;obtain⟨rfl,rfl,rfl,rfl,rfl⟩:=d;have c:jV 9 ⟨9,0,0,0,0,0,a,t0,t1,t2,t3⟩ []=true:=g;refine⟨by simp[lB,r5,r7,r9,Vl,QM,Vk,lM,eK],?_,rfl,c,rfl,qi ?_ c⟩;·show(bt 3 t0||(bt 3 t1||(bt 3 t2||bt 3 t3)))=false;rw[Vt b.t0,Vt b.t1,Vt b.t2,Vt b.t3];rfl
 show rN 3 (λm v => { m with t3:=v}) (rN 3 (λm v => { m with t2:=v}) (rN 3 (λm v => { m with t1:=v}) (rN 3 (λm v => { m with t0:=v}) (rN 1 (λm v => { m with asked:=u8 v}) (some ([a]++(be 3 t0++(be 3 t1++(be 3 t2++be 3 t3))),aM 9,[]))))))=_;rw[ML,K3 b.t0,K3 b.t1,K3 b.t2,Vj b.t3];simp only[PT];rfl
def aaf{l:List (bp × AV)}{u i j fr to t0 t1 t2 t3:Int}{a:UInt8}(h:iD ⟨2,u,i,j,fr,to,a,t0,t1,t2,t3⟩ l=true):E6 ⟨2,u,i,j,fr,to,a,t0,t1,t2,t3⟩ l:=by
 obtain⟨m,d,k,_⟩:=na h;obtain⟨f,_⟩:=qn h;have b:rZ l=true:=(kz h).2.2;simp[oJ,sR,ND,L0,Ke,xM,wQ,vM,aM]at f;obtain⟨rfl,rfl,rfl,rfl,rfl,rfl,rfl,rfl,rfl,rfl⟩:=f;match l,b with
 | [p],b=>
  have c:=Hj d;have g:=Hk [] (aM 2) [] d;rw[mz]at g;have e:eK (2:UInt8).toNat ⟨2,0,0,0,0,0,0,0,0,0,0⟩ [p]=mv [p]:=rfl;refine⟨?_,?_,rfl,b,rfl,?_⟩;·show _=2 :: (mv [p]).1;rw[c];rfl
  ·show(mv [p]).2=false;rw[c]
  show getM (2 :: (mv [p]).1)=_;rw[c];exact qi g b
def Z9{l:List (bp × AV)}{u g j fr to t0 t1 t2 t3:Int}{a:UInt8}(h:iD ⟨8,u,g,j,fr,to,a,t0,t1,t2,t3⟩ l=true):E6 ⟨8,u,g,j,fr,to,a,t0,t1,t2,t3⟩ l:=by
 obtain⟨b,c,o,_⟩:=na h;obtain⟨d,_⟩:=qn h;simp[oJ,sR,ND,L0,Ke,xM,wQ,vM,aM]at d;obtain⟨rfl,rfl,rfl,rfl,rfl,rfl,rfl,rfl⟩:=d;have i:=Hj c;have e:=Hk [] { aM 8 with fromN:=fr,total:=to} [] c;rw[mz]at e;have f:(eK (8:UInt8).toNat ⟨8,0,0,0,fr,to,0,0,0,0,0⟩ l).1=be 3 fr++(be 3 to++([u8 (l.length:Int)]++lM l)):=by
  show be 3 fr++(be 3 to++([u8 (l.length:Int)]++(mv l).1))=_;rw[i]
 refine⟨?_,?_,rfl,rfl,rfl,?_⟩;·rw[f];simp[lB,r5,r7,r9,Vl,QM,Vk]
 ·show(bt 3 fr||bt 3 to||decide (3<l.length)||(mv l).2)=false;rw[i,Vt b.fromN,Vt b.total,iQq (by omega)];rfl
 rw[f];refine qi ?_ rfl;show sO (rN 3 (λm v => { m with total:=v}) (rN 3 (λm v => { m with fromN:=v}) (some (be 3 fr++(be 3 to++([u8 (l.length:Int)]++lM l)),aM 8,[]))))=_;rw[K3 b.fromN,K3 b.total];have k:val (List.take 1 ([u8 (l.length:Int)]++lM l))=l.length:=(by show val [u8 (l.length:Int)]=_;simp[val,zT,DO];omega);have n : ¬([u8 (l.length:Int)]++lM l).length<1:=(by simp);simp only[sO,cR];rw[if_neg n,k,if_neg (by omega)];exact e
def An{m:aD}{l:List (bp × AV)}(h:iD m l=true):E6 m l:=by
 obtain⟨_,_,_,k1,c⟩:=na h;obtain⟨k,u,e,co,fr,to,a,t0,t1,t2,t3⟩:=m;have b:k=1\/k=2\/k=3\/k=4\/k=5\/k=6\/k=7\/k=8\/k=9\/k=10:=by
  have d:1<=k.toNat:=GL.1 k1;have f:k.toNat<=10:=GL.1 c;have b:k=UInt8.ofNat k.toNat:=by simp
  have:k.toNat=1\/k.toNat=2\/k.toNat=3\/k.toNat=4\/k.toNat=5\/k.toNat=6\/k.toNat=7\/k.toNat=8\/k.toNat=9\/k.toNat=10:=(by omega);rcases this with h | h | h | h | h | h | h | h | h | h<;>rw[b,h]<;>simp
 rcases b with rfl | rfl | rfl | rfl | rfl | rfl | rfl | rfl | rfl | rfl
 ·exact aag h
 ·exact aaf h
 ·exact aae h
 ·exact aad h
 ·exact aac h
 ·exact aab h
 ·exact aaa h
 ·exact Z9 h
 ·exact Z8 h
 exact W1 h
def OJ{m:aD}{l:List (bp × AV)}(h:iD m l=true):nA m l=true:=by
 obtain⟨f,d,b,a,e,c⟩:=An h;unfold nA;rw[e,b,d,a,c];simp only[Gl,rW,Bs (Uo l)];rfl
def WM{n m:Nat}(h:n<=m)(c:m<=3):(256:Int) ^ n<=256 ^ m:=by
 have a:m=0\/m=1\/m=2\/m=3:=by omega
 have b:n=0\/n=1\/n=2\/n=3:=by omega
 rcases a with rfl | rfl | rfl | rfl<;>rcases b with rfl | rfl | rfl | rfl<;>first | omega | decide
def CV(b:List UInt8)(fr:Nat){many:Nat}(a:many<=3):eX b fr many<256 ^ many:=by
 have h:=(ku ((b.drop fr).take many)).2;have c:((b.drop fr).take many).length<=many:=by rw[kp];omega
 have hp:=WM c a;unfold eX;omega
def Cl(b:List UInt8)(fr:Nat):mX (eX b fr 3)=true:=by
 have a:=BE b fr 3;have c:=CV b fr (many:=3) (by omega);simp only[mX,bD,iQb];exact⟨a,by simpa using c⟩
def OW{ol:List (bp × AV)}(h:Cs ol):qS ol=true:=eC.2 λp hp=>(h p hp).1
def tp{m:aD}{l:List (bp × AV)}(f:1<=m.kind)(k:m.kind<=10)(c:oJ m=aM m.kind)(o:uQ m.kind l=[])(b:0<=m.user/\m.user<=255)(d:mX m.serial=true)(a:0<=m.code/\m.code<65536)(h:mX m.fromN=true)(g:mX m.total=true)
 (t0:mX m.t0=true) (t1:mX m.t1=true) (t2:mX m.t2=true) (t3:mX m.t3=true) (p:l.length<=3) (e:qS l=true) (i:Lz m l=true):iD m l=true:=by
 unfold iD;rw[if_pos ⟨f,k⟩];have n:AP m l=true:=by
  unfold AP;rw[c,o,rW];rfl
 have j:G9 m l=true:=by
  unfold G9;rw[iQj b.1,iQj b.2,d,iQj a.1,iQj a.2,h,g,t0,t1,t2,t3,e,iQj (show(l.length:Int)<=3 by omega)];rfl
 rw[n,j,i];rfl
def Nb{b:List UInt8}{m:aD}{ol:List (bp × AV)}(h:getM b=some (m,ol)):iD m ol=true:=by
 obtain⟨w,p,f,x,a,n,o,j⟩:=AD h;obtain⟨d1,d2⟩:=Nc h;have g:=OW w;obtain⟨k,t,rfl⟩ : ∃k t,b=k :: t:=⟨_,_,n⟩;have i:m.kind=k:=by injection n with e _;exact e.symm
 rw[i]at f x a o j;have z:=CV (k :: t) 1 (many:=1) (by omega);have y:=BE (k :: t) 1 1;have l:=CV (k :: t) 1 (many:=2) (by omega);have c0:=BE (k :: t) 1 2;have q:=CV (k :: t) 4 (many:=2) (by omega);have v:=BE (k :: t) 4 2;rw[show(256:Int) ^ 1=256 from rfl]at z;rw[show(256:Int) ^ 2=65536 from rfl]at l q;have s:k=1\/k=2\/k=3\/k=4\/k=5\/k=6\/k=7\/k=8\/k=9\/k=10:=by
  have:1<=k.toNat/\k.toNat<=10:=by
   unfold kE at f;split at f;·exact absurd rfl f
   split at f;·omega
   exact absurd rfl f
  have u:k=UInt8.ofNat k.toNat:=(by simp);have:k.toNat=1\/k.toNat=2\/k.toNat=3\/k.toNat=4\/k.toNat=5\/k.toNat=6\/k.toNat=7\/k.toNat=8\/k.toNat=9\/k.toNat=10:=(by omega);rcases this with h | h | h | h | h | h | h | h | h | h<;>rw[u,h]<;>simp
 clear h d2 n i o;subst d1;have c:(0:Int)<=0/\(0:Int)<=255:=by decide
 have d:(0:Int)<=0/\(0:Int)<65536:=by decide
 rcases s with rfl | rfl | rfl | rfl | rfl | rfl | rfl | rfl | rfl | rfl
 ·obtain rfl:=a (by decide) (by decide);exact tp (show(1:UInt8)<=1 by decide) (show(1:UInt8)<=10 by decide) rfl rfl ⟨y,by show eX _ 1 1<=255;omega⟩ rfl d rfl rfl rfl rfl rfl rfl (by simp) rfl rfl
 ·exact tp (show(1:UInt8)<=2 by decide) (show(2:UInt8)<=10 by decide) rfl rfl c rfl d rfl rfl rfl rfl rfl rfl p g j
 ·obtain rfl:=a (by decide) (by decide);exact tp (show(1:UInt8)<=3 by decide) (show(3:UInt8)<=10 by decide) rfl rfl c rfl d (Cl _ 1) rfl rfl rfl rfl rfl (by simp) rfl rfl
 ·obtain rfl:=a (by decide) (by decide);exact tp (show(1:UInt8)<=4 by decide) (show(4:UInt8)<=10 by decide) rfl rfl c rfl d rfl rfl rfl rfl rfl rfl (by simp) rfl j
 ·obtain rfl:=a (by decide) (by decide);exact tp (show(1:UInt8)<=5 by decide) (show(5:UInt8)<=10 by decide) rfl rfl c rfl d rfl rfl rfl rfl rfl rfl (by simp) rfl rfl
 ·obtain rfl:=a (by decide) (by decide);exact tp (show(1:UInt8)<=6 by decide) (show(6:UInt8)<=10 by decide) rfl rfl c rfl ⟨c0,l⟩ rfl rfl rfl rfl rfl rfl (by simp) rfl rfl
 ·obtain rfl:=a (by decide) (by decide);exact tp (show(1:UInt8)<=7 by decide) (show(7:UInt8)<=10 by decide) rfl rfl c (Cl _ 1) ⟨v,q⟩ rfl rfl rfl rfl rfl rfl (by simp) rfl (show(!decide ((7:UInt8)=7)||decide (0<(uH (7 :: t)).serial))=true by rw[show decide (0<(uH (7 :: t)).serial)=true from j];rfl)
 ·exact tp (show(1:UInt8)<=8 by decide) (show(8:UInt8)<=10 by decide) rfl rfl c rfl d (Cl _ 1) (Cl _ 4) rfl rfl rfl rfl p g rfl
 ·obtain rfl:=a (by decide) (by decide);exact tp (show(1:UInt8)<=9 by decide) (show(9:UInt8)<=10 by decide) rfl rfl c rfl d rfl rfl (Cl _ 2) (Cl _ 5) (Cl _ 8) (Cl _ 11) (by simp) rfl j
 obtain rfl:=a (by decide) (by decide);exact tp (show(1:UInt8)<=10 by decide) (show(10:UInt8)<=10 by decide) rfl rfl c rfl ⟨c0,l⟩ rfl rfl rfl rfl rfl rfl (by simp) rfl rfl
def OL{m:aD}{l b:List (bp × AV)}(h:l.map (·.1)=b.map (·.1)):iD m l=iD m b:=by
 have a:l.length=b.length:=by simpa using iQh List.length h
 have c:qS l=qS b:=by
  have e : ∀l:List (bp × AV),qS l=(l.map (·.1)).all my:=λl=>by simp[qS,List.all_map,Function.comp_def]
  rw[e,e,h]
 have f:rZ l=rZ b:=by
  match l,b,h with
  | [],[],_=>rfl
  | [p],[q],h=>simp only[sW,Di,wa,iQr]at h;show(!decide (-1∈p.1.l))=(!decide (-1∈q.1.l));rw[h]
  | p :: i :: t,q :: g :: t',_=>rfl
 have d:dx (uQ m.kind l) []=dx (uQ m.kind b) []:=by
  unfold uQ;split;·rfl
  cases l<;>cases b<;>simp at a<;>rfl
 unfold iD AP G9 Lz;rw[d,a,c,f]
def T5{m:aD}{l:List (bp × AV)}(h:nA m l=true):iD m l=true:=by
 unfold nA at h;simp only[bD]at h;have a:=h.2;cases b:getM (m.kind :: (eK m.kind.toNat m l).1) with
 | none=>rw[b]at a;cases a
 | some r=>obtain⟨d,c⟩:=r;rw[b]at a;simp only[Gl,bD]at a;have e:=IG a.1;subst e;rw[OL (xX a.2).symm];exact Nb b
def Rq(m:aD)(l:List (bp × AV)):iD m l=nA m l:=by
 cases h:nA m l with| true=>exact T5 h| false=>
  cases a:iD m l with
  | false=>rfl
  | true=>rw[OJ a]at h;cases h
def Xq(b:List UInt8):tx b=getM b:=by
 cases a:getM b with| some r=>obtain⟨m,ol⟩:=r;obtain⟨i,n,l,k,g,c,f,j⟩:=AD a;obtain⟨d1,d2⟩:=Nc a;have d:=Nb a;have e:=(An d).bytes;unfold tx;rw[if_neg (by rw[c];simp),d1,d2,if_pos ⟨d,by rw[e];exact c.symm⟩]| none=>
  unfold tx;split;·rfl
  split;·rename_i h;have hp:=(An h.1).back;rw[<-(An h.1).bytes,h.2,a]at hp;cases hp
  rfl
def S8{l:List (bp × AV)}(h : ∀p∈l,p.1.l.length<100000):OF (yq l):=by
 intro p hp;obtain⟨q,a,rfl⟩:=lX.1 hp;exact⟨rfl,h q a⟩
def Wh{l:List (bp × AV)}(h : ∀p∈l,uS p) : ∀p∈yq l,uS p:=by
 intro p hp;obtain⟨q,a,rfl⟩:=lX.1 hp;exact⟨Ag 1 _,(h q a).2⟩
def xW : ∀(l m:List (bp × AV)),dx (yq l) m=dx l m
 | [],[]=>rfl
 | [],_ :: _=>rfl
 | _ :: _,[]=>rfl
 | p :: l,q :: m=>by
  show(qx p.1 q.1&&dx (yq l) m)=(qx p.1 q.1&&dx l m);rw[xW l m]
def xl : ∀(l:List (bp × AV)),dx l l=true
 | []=>rfl
 | p :: l=>by
  show(qx p.1 p.1&&dx l l)=true;rw[xl l,D3];rfl
def UR(l:List (bp × AV)):qS (yq l)=qS l:=by
 unfold qS yq;rw[List.all_map];rfl
def OC(l:List (bp × AV)):rZ (yq l)=rZ l:=by
 match l with
 | []=>rfl
 | [p]=>rfl
 | _ :: _ :: _=>rfl
def Sq(k:UInt8)(l:List (bp × AV)):uQ k (yq l)=yq (uQ k l):=by
 unfold uQ;split<;>rfl
def MX(m:aD)(l:List (bp × AV)):iD m (yq l)=iD m l:=by
 unfold iD AP G9 Lz;rw[Sq,xW,UR,OC,CO]
def MS : ∀(l:List (bp × AV)),mv (yq l)=mv l
 | []=>rfl
 | p :: l=>by
  show(if my p.1 then (ck p.1++(mv (yq l)).1,(mv (yq l)).2) else ([],true))=_;rw[MS l];rfl
def RF(n:Nat)(m:aD)(l:List (bp × AV)):eK n m (yq l)=eK n m l:=by
 unfold eK;split<;>simp only[MS,CO]
def IM{l:List (bp × AV)}(h:OF l):(bV l).map yF=a6 l:=by
 unfold bV a6;rw[iQU];refine iQQ λp hp=>?_;obtain⟨b,_⟩:=h p hp;obtain⟨o,x⟩:=p;simp only at b;subst b;show yF (.agg (jS o++[ru 1 (rows o.l)]))=kJ (o,oR 1 (rows o.l));by_cases a:rows o.l=[];·rw[a];rfl
 rw[rr 1 a,qf 1 a];rfl
def Ox{m:aD}{l:List (bp × AV)}{g b:AV}(a:Aa m (yq l) g)
 (k:(iD m l=true /\∃v,b = .tup [v,aI 0]/\Sl 1 (aQ (lB m l)) v)\/(iD m l=false/\b = .tup [a9,aI 8])) :
 ∃d f e bs,g = .tup [d,aI e]/\b = .tup [f,aI e]/\Sl 1 (aQ bs) d/\Sl 1 (aQ bs) f/\e=if iD m l then 0 else 8:=by
 have j:nA m (yq l)=iD m l:=by rw[<-Rq,MX]
 unfold Aa at a;rw[j]at a;rcases k with ⟨h,v,rfl,i⟩ | ⟨h,rfl⟩
 ·rw[h,if_pos rfl]at a;obtain⟨z,rfl,c⟩:=a;rw[RF,<-(An h).bytes]at c;exact⟨z,v,0,_,rfl,rfl,c,i,by rw[h];rfl⟩
 rw[h]at a;simp only[hU,iQf]at a;subst a;exact⟨a9,a9,8,[],rfl,rfl,.inl ⟨rfl,rfl⟩,.inl ⟨rfl,rfl⟩,by rw[h];rfl⟩
def OY{b:List UInt8}{y:AV}(h:Hs (tx b) y) : ∃(M:aD) (L:List (bp × AV)) (z:AV) (e:Int),Aq (getM b) = .tup [M.val (CI L),aI e]/\y = .tup [M.val z,aI e]/\Sl 17 (a6 L) z/\Cs L/\L.length<=3:=by
 rw[Xq]at h;cases a:getM b with
 | none=>rw[a]at h;have h:y = .tup [(aM 0).val a9,aI 90]:=h;exact⟨aM 0,[],a9,90,rfl,h,.inl ⟨rfl,rfl⟩,λp hp=>by simp at hp,by simp⟩
 | some r=>obtain⟨M,L⟩:=r;rw[a]at h;obtain⟨z,d,g⟩:=h;obtain⟨f,c,_⟩:=AD a;exact⟨M,L,z,0,rfl,d,g,f,c⟩
end
section
attribute [local simp] a7 aL au aJ aH bF kV bc aA aN cw cu aY ba ah bG fG
def FZ{z:Nat}{es:List AV}{x:AV}(h:Sl z es x):x.cells=[x]/\x.one=true:=by
 rcases h with ⟨rfl,_⟩ | ⟨c,rfl,_⟩<;>exact⟨rfl,rfl⟩
def xy{H:ab}{fs:List (Ref × aP)}{b:List wR}(h:sv H fs b){t:Nat}{m:aD}{x:AV}(c:x.cells=[x]/\x.one=true){K:AV->ab->Prop}
 (d : ∀r H',sv H' ((r,m.bu x) :: fs) b->K (.ptr r 0 0) H') :
 jF (kj H (⟨0,t,ab.gen H 0 t,0⟩:Ref) (Fp env.P (⟨0,t,ab.gen H 0 t,0⟩:Ref) 26 (some (m.val x)))) K:=by
 have a:=d ⟨0,t,H.gen 0 t,0⟩ ((⟨0,t,H.gen 0 t,0⟩,some (m.bu x)) :: H) (h.new 0 t _);clear d;simp only[aD.bu,aD.val]at a ⊢;simp[c.1,c.2];exact a
def Hr{H:ab}{fs:List (Ref × aP)}{b:List wR}(h:sv H fs b){t:Nat}{m:aD}{x:AV}(c:x.cells=[x]/\x.one=true){K:AV->ab->Prop}
 (d : ∀r H',sv H' ((r,m.bu x) :: fs) b->K (.ptr r 0 0) H') :
 jF (kj H (⟨0,t,ab.gen H 0 t,0⟩:Ref) (tn env.P (⟨0,t,ab.gen H 0 t,0⟩:Ref) 26)) λv e=>jF (iu env.P e 26 (some v) (some (m.val x))) λf H2=>K v H2:=by
 have a:=d ⟨0,t,H.gen 0 t,0⟩ ((⟨0,t,H.gen 0 t,0⟩,some (m.bu x)) :: H) (h.new 0 t _);clear d;simp only[aD.bu,aD.val]at a ⊢;simp[cK,c.1,c.2];exact a
def wA{H:ab}{fs:List (Ref × aP)}{a:List wR}(h:sv H fs a)(r:Ref)(m:aD)(x:AV)(c:(r,m.bu x)∈fs){K:AV->Prop}(b:K (m.val x)) :
 fg (mP env.P (ab.get H) 26 (some (.ptr r 0 0))) K:=by
 have:=h.has _ c;simp only[aD.bu,aD.val]at this b ⊢;simp[this];exact b
def Wy{H:ab}{fs:List (Ref × aP)}(h:sv H fs []){t:Nat}{m:AV}{b:List UInt8}(l:Sl 1 (aQ b) m)(n:b.length<2000000){K:AV->ab->Prop}
 (i : ∀k H' g,Ka false 1 (aQ b) k g->TU 1 (aQ b) k=oR 1 (aQ b)->sv H' (g++fs) []->K k H') :
 jF (dK env.P true H (⟨0,t,ab.gen H 0 t,0⟩:Ref) (some 27) (some 27) (.v (.slice none 0 0)) m) K:=by
 have d:=l.kg;have e:=l.r;by_cases a:b=[];·have c:=i a9 H [] (.inl ⟨rfl,by rw[a];rfl,rfl⟩) (by rw[a];rfl) h;subst a;clear i;simp[d,e];exact c
 have f:aQ b≠[]:=by simpa [aQ] using a
 have c:=i (.bO ⟨0,t,H.gen 0 t,0⟩ 0 (aQ b).length none) ((⟨0,t,H.gen 0 t,0⟩,some ⟨1,aQ b,true,false⟩) :: H) _ (.inr ⟨_,rfl,rfl⟩) (by rw[qf 1 f];rfl) (h.new 0 t _);have j:b.length<=140737488355328:=by omega
 clear i;rw[fh]at c;simp[f,j,a,d,e];exact c
def W0{y:AV}(m:aD) : ∀r s bs,ae r 7 y []=(s,bs)->ae r depth (m.val y) []=(m.val s,bs):=by
 intro r s bs h;unfold aD.val;show(λp:List AV × List aP=>(AV.agg p.1,p.2)) ([a8 m.kind,aI m.user,aI m.serial,aI m.code,aI m.fromN,aI m.total,a8 m.asked,aI m.t0,aI m.t1,aI m.t2,aI m.t3,y].foldl (λ(p:List AV × List aP) c=>let (y,bs):=ae r 7 c p.2;(p.1++[y],bs)) ([],[]))=_;simp only[sG,List.foldl_nil,h,show ∀(x:UInt8)(bs:List aP),ae r 7 (a8 x) bs=(a8 x,bs) from λx bs=>rfl,show ∀(x:Value)(bs:List aP),ae r 7 (.v x) bs=(.v x,bs) from λx bs=>rfl];rfl
def IP{H:ab}{s:AV}{es':List AV}{rs:List Ref}(h:pn 17 H s es' rs){y:AV}(b:zi 17 s es'=y):view H.get 7 s=some (Ce y)/\ad H.get 7 s=rs/\s.cells=[s]/\s.one=true:=by
 obtain⟨e,a,c,d⟩:=h.out 4;rw[b]at a;exact⟨a,c,qG h⟩
def CZ{l:List UInt8}{x:AV}(h:Sl 1 (aQ l) x)(g:cb)(r:Ref):bM env.P g r 27 9 (some x)=some (sB l,[]):=h.conv (by kernel_rfl) (by kernel_rfl) g r
def Sb{fz:Bool}{b:List UInt8}{x:AV}{a fs:List (Ref × aP)}{H:ab}{c:List wR}(h:Ka fz 1 (aQ b) x a)(f:sv H fs c)(i : ∀p∈a,p∈fs)(r:Ref):bM env.P H.get r 27 9 (some x)=some (sB b,[]):=by
 rcases h with ⟨rfl,e,rfl⟩ | ⟨q,rfl,rfl⟩
 ·have:b=[]:=by simpa [aQ] using e
  subst this;exact CZ (.inl ⟨rfl,rfl⟩) _ _
 have d:=f.has (q,⟨1,aQ b,true,fz⟩) (i _ (by simp));have g:cM env.P 27=true:=by kernel_rfl
 have j:isStr env.P 9=true:=(by kernel_rfl);simp only at d;simp[d,g,j]
end
end Go.Proofs.YtehkjjcdkbcebaaGreat
