/-
  Disks by the document: what the functions answer. No statement of a seat is proved here.
-/
import Derived.Test.YtjampffmlnplcaaMDtIns
set_option linter.unusedVariables false
set_option linter.unusedSimpArgs false
set_option linter.unusedSectionVars false
set_option linter.unnecessarySimpa false
set_option maxRecDepth 1000000
namespace Go.Proofs.Ytjampffmlnplcaa
open Go.Ab
section
attribute [local simp] cC bV bn bW bm kp cI bY bX eQ eP aO ej
theorem Dh{E:Env}{f:FuncId}{fn:Func}{c:Code}{args:List AV}{R:AV->Prop}(p:E.spec f args=none)(k:E.allowed f=true)(z:E.P.funcs[f]?=some fn)(A:fn.body=some c)(d:Nat.ble args.length fn.ntmps=true)
 (h:gm E fn 0 [.code c] (qC 0 args) [] λx H =>∃y,eK E f x H y/\R y) : ∃y,aN E f args=some y/\R y:=by
 obtain⟨x,H,⟨y,g,u⟩,n,v⟩:=h.h (λ_=>AV.undef) args λi=>(sD args i).symm
 refine⟨y,mL.2 ⟨n,λm q=>?_⟩,u⟩
 obtain⟨st,j,t,w⟩:=v m q
 subst w
 unfold bM
 rw[p]
 unfold oW
 simp only[k,if_true,z,A,if_pos (wo d),j,t,Option.map_some]
 unfold eK at g
 split
 ·rename_i j
  rw[if_pos j]at g
  rw[if_pos g.1]
  exact g.2
 ·rename_i j
  rw[if_neg j]at g
  exact g
section
variable{l:List bK}{x:AV}{st lf:Int}{dd:Bool}(a:Sl 2 (an l) x)(b : ∀s∈l,dy s)
include a b
theorem zr{r1:Ref}{Q:AV->aa->Prop}{H:aa}(q:H.get r1=some ⟨4,[a6 x st lf dd],false,false⟩)(c : ∀t:Bool,(t=false->l.length<=200)->Q (aB t) H) : ∀(j k:Nat)(n:Int),k+j=300->k<=l.length->0<=n->n<=10000 * k ->
 gm env Try.f61 0 dw [(4,aI k),(1,.ptr r1 0 0),(3,aI n)] H Q:=by
 intro j
 induction j with
 | zero=>
  intro k n B f u w
  refine gB _ _ _ _ _ λg=>?_
  simp only[a6]at q
  obtain rfl:k=300:=by omega
  simp[ca, *,dx,a.r]
  repeat' ((first | apply nD<;>intro h | apply kW<;>intro h | apply kX<;>intro h | apply kU<;>intro h | apply kV<;>intro h)<;>(try simp only[decide_eq_true_eq,decide_eq_false_iff_not,gb,nf,bR,iK]at h)<;>(try simp[ca, *,a.r]))
  all_goals first | exact c true (λh=>by cases h) | exact c _ (λ_=>by omega)
 | succ j v=>
  intro k n B f u w
  have E:=IntWalk.i64_in ((k:Int)+1) (by omega)
  refine gB _ _ _ _ _ λg=>?_
  simp only[a6]at q
  have D:(k:Int)<300:=by omega
  by_cases i:k<l.length
  ·have hp:=(b l[k] (eE _)).r
   have z:bq (an l) k 1 1 false=some l[k].av:=by simp[an,i,bK.enc]
   simp[ca, *,dx,a.r,a.idx]
   obtain⟨m,hm⟩ : ∃m:Int,m=if 10000<(l[k].bs.length:Int) then 10000 else (l[k].bs.length:Int):=⟨_,rfl⟩
   have A:0<=m/\m<=10000:=by rw[hm];split<;>omega
   have C:=IntWalk.i64_in (n+m) (by omega)
   rw[<-hm,C]
   have p:=v (k+1) (n+m) (by omega) (by omega) (by omega) (by omega)
   rw[show((k+1:Nat):Int)=(k:Int)+1 from by omega]at p
   exact p
  ·simp[ca, *,dx,a.r,a.idx]
   repeat' ((first | apply nD<;>intro h | apply kW<;>intro h | apply kX<;>intro h | apply kU<;>intro h | apply kV<;>intro h)<;>(try simp only[decide_eq_true_eq,decide_eq_false_iff_not,gb,nf,bR,iK]at h)<;>(try simp[ca, *,a.r]))
   all_goals first | exact c true (λh=>by cases h) | exact c _ (λ_=>by omega)
theorem Ai : ∃t:Bool,aN env 61 [a6 x st lf dd]=some (aB t)/\(t=false->l.length<=200):=by
 have h : ∃y,aN env 61 [a6 x st lf dd]=some y /\∃t:Bool,y=aB t/\(t=false->l.length<=200):=by
  refine Dh (fn:=Try.f61) (c:=lM) (by kernel_rfl) (by kernel_rfl) (by kernel_rfl) (by kernel_rfl) (by kernel_rfl) ?_
  refine lI _ _ _ λg=>?_
  suffices h : ∀Q:AV->aa->Prop,(∀t:Bool,(t=false->l.length<=200)->Q (aB t) [(⟨0,1,0,0⟩,some ⟨4,[a6 x st lf dd],false,false⟩)])->fy g (a6 x st lf dd) [] Q from
   h _ λt i=>⟨aB t,by simp,t,rfl,i⟩
  intro Q f
  have d:=zr (st:=st) (lf:=lf) (dd:=dd) a b (r1:=⟨0,1,0,0⟩) (H:=[(⟨0,1,0,0⟩,some ⟨4,[a6 x st lf dd],false,false⟩)]) (Q:=Q) (by simp) f 300 0 0 (by omega) (by omega) (by omega) (by omega)
  clear f
  simp only[a6]at d ⊢
  simp[ca, *,fy,a.r]
  exact d
 obtain⟨y,j,t,rfl,k⟩:=h
 exact⟨t,j,k⟩
end
theorem mu{l:List UInt8}{x:AV}(h:Sl 1 (cR l) x)(g:bD)(r:Ref):bI env.P g r 98 9 (some x)=some (sB l,[]):=by
 rcases h with ⟨rfl,h⟩ | ⟨c,rfl,h⟩
 ·have:l=[]:=by simpa [cR] using h
  subst this
  simp
 ·simp
def bP(l:List bK):List (Int × List UInt8):=l.map λs=>(s.pos,s.bs)
section
variable{l m:List bK}{x y:AV}(a:Sl 2 (an l) x)(b : ∀s∈l,dy s)(o:Sl 2 (an m) y)(e : ∀s∈m,dy s)(d:l.length<1000000)
include a b o e d
end
end
section
attribute [local simp] cC bV bn bW bm kp cI bY bX eQ eP aO ej
noncomputable def xY:Env:=k6 Try.prog [108] [] [108] (λ_=>false) (λ_=>[]) (λ_=>false) []
theorem Jm:qz xY [108]=true:=by kernel_rfl
theorem Ke:xY.Ok (nA xY):=vQ sJ (by kernel_rfl) Jm (λf t h=>by cases h) (λf args H y H' h=>by cases h)
noncomputable def Gd:Code:=(Try.f108.body).getD .skip
def IZ:Nat->Option (List Nat):=λi=>none
def Jk:Nat->Bool:=λi=>false
def Gf(dep:Nat)(g:Nat->AV)(a:AV)(H:aa)(Q:AV->aa->Prop):Prop:=
 FD 91 3 a λe=>
 br (some e) (
  Q (.v (.slice none 0 0)) H) (
  ga (oH env.P false true H (⟨(dep+1),5,aa.gen H (dep+1) 5,0⟩:Ref) 91 0 (some [])) λc f=>
  zZ f dep 7 91 91 c a λd b=>
  Q d b)
theorem Iv(dep:Nat)(a:AV)(H:aa)(Q:AV->aa->Prop)(h : ∀g,Gf dep g a H Q):gm xY Try.f108 (dep+1) [.code Gd] [(0,a)] H Q:=⟨λg=>jR (live:=IZ) (cut:=Jk) (n:=500) (Eq.mp (by kernel_rfl) (h g))⟩
theorem Jl(H:aa)(e:AV)(es:List AV)(c:Option Nat)(h:(es.length+1) * 32<=Ab.aO)(i:Fr H):dC Try.prog (.fn 108) [.cE 2 (e :: es) c] H (.aD (ic 7 H) 0 (es.length+1) none) (DO 2 5 7 H (e :: es) true):=by
 obtain⟨b,a,d,rfl,rfl⟩ : ∃b a,cB xY 0 (.fn 108) [.cE 2 (e :: es) c] H=some (b,a)/\b = .aD (ic 7 H) 0 (es.length+1) none/\a=DO 2 5 7 H (e :: es) true:=by
  refine mh (fn:=Try.f108) (c:=Gd) (by kernel_rfl) (by kernel_rfl) (by kernel_rfl) (by kernel_rfl) (by kernel_rfl) ?_ ?_
  ·refine Iv _ _ _ _ λg=>?_
   have f:(es.length+1) * 32<=140737488355328:=by simpa [aO] using h
   simp[ca, *,Gf,DO,ic,f]
   done
  ·rfl
 exact pB Ke d
theorem xR(args:List AV)(H:aa)(y:AV)(H':aa)(h:mq 2 32 5 7 args H=some (y,H')):dC Try.prog (.fn 108) args H y H':=
 vV ⟨Try.f108,by kernel_rfl,by kernel_rfl,by kernel_rfl⟩ Jl h
def En:List UInt8:=List.replicate 128 0
def CG:List bK->Int->List UInt8
 | [],_=>En
 | p :: l,q=>if p.pos<q then CG l q else if p.pos=q then p.bs else En
def Cc(q:Int)(b:List UInt8):List bK->List bK
 | []=>[np q b]
 | p :: l=>if p.pos<q then AW p :: Cc q b l else if p.pos=q then np q b :: kg l else np q b :: AW p :: kg l
theorem xl(p:bK)(l:List bK)(q:Int):nth (p :: l) q=if p.pos<q then nth l q+1 else 0:=by
 unfold nth
 by_cases h:p.pos<q
 ·rw[vd (p:=λs:bK=>decide (s.pos<q)) (decide_eq_true h),if_pos h,kC]
 ·rw[vc (p:=λs:bK=>decide (s.pos<q)) (by rw[decide_eq_true_eq];exact h),if_neg h];rfl
theorem GL(l:List bK)(q:Int):GM l q=CG l q:=by
 induction l with
 | nil=>rfl
 | cons p l a=>
  unfold GM CG
  rw[xl]
  by_cases h:p.pos<q
  ·rw[if_pos h,if_pos h,<-a];rfl
  ·rw[if_neg h,if_neg h]
   by_cases e:p.pos=q
   ·simp[fX,e]
   ·simp[fX,e,En]
theorem Gh(l:List bK)(q:Int)(b:List UInt8):Cd l q b=Cc q b l:=by
 induction l with
 | nil=>rfl
 | cons p l a=>
  unfold Cd Cc
  rw[xl]
  by_cases h:p.pos<q
  ·rw[if_pos h,if_pos h,<-a]
   unfold Cd
   have e:fX (p :: l) q (nth l q+1)=fX l q (nth l q):=rfl
   rw[e]
   split<;>rfl
  ·rw[if_neg h,if_neg h]
   by_cases e:p.pos=q
   ·simp[fX,e,kg]
   ·simp[fX,e,kg]
theorem sO(l:List bK):bP (kg l)=bP l:=by simp[bP,kg,AW]
end
section
attribute [local simp] cC bV bn bW bm kp cI bY bX eQ eP aO ej
theorem A7{x y:AV}{l m:List UInt8}(b:Sl 1 (cR l) x)(c:Sl 1 (cR m) y):aN env 110 [x,y]=some (aB (decide (l=m))):=by
 refine fK rfl (by kernel_rfl) (rQ _ _ _ _ λg=>?_)
 have i:=mu b
 have e:=mu c
 by_cases h:l=m<;>simp[ca, *,nH]
theorem EK{p q:bK}(hp:dy p)(e:dy q):aN env 109 [p.enc,q.enc]=some (aB (decide (p.pos=q.pos/\p.bs=q.bs))):=by
 refine fK rfl (by kernel_rfl) (rP _ _ _ _ λg=>?_)
 have j:=A7 hp e
 have k:=hp.r
 have n:=e.r
 simp only[bK.enc]
 by_cases h:p.pos=q.pos
 ·by_cases i:p.bs=q.bs<;>simp[h,i]at j ⊢ <;> simp[ca, *,k8]
 ·simp[h]
  simp[ca, *,k8]
def im(st lf:Int)(dd:Bool)(st' lf':Int)(dd':Bool):Bool:=decide (st=st')&&(decide (lf=lf')&&decide (dd=dd'))
section
variable{l m:List bK}{x y:AV}(b:Sl 2 (an l) x)(d : ∀s∈l,dy s)(c:Sl 2 (an m) y)(a : ∀s∈m,dy s)(f:l.length<1000000)
include b d c a f
theorem zq{r1 r2:Ref}{Q:AV->aa->Prop}{H:aa}{st lf st' lf':Int}{dd dd':Bool}(M:H.get r1=some ⟨4,[a6 x st lf dd],false,false⟩)(N:H.get r2=some ⟨4,[a6 y st' lf' dd'],false,false⟩) :
 ∀(s t:List bK)(k:Nat),l.drop k=s->m.drop k=t->k<=l.length->l.length=m.length->Q (aB (decide (bP s=bP t)&&im st lf dd st' lf' dd')) H ->
 gm env Try.f62 0 dH [(5,aI k),(3,.ptr r2 0 0),(2,.ptr r1 0 0)] H Q:=by
 simp only[a6]at M N
 intro s
 induction s with
 | nil=>
  intro t k w n I A h
  obtain rfl:=drop_nil w I
  have:t=[]:=by rw[<-n];exact ot (by omega)
  subst this
  have F:decide (bP []=bP [])=true:=by simp
  rw[F,o6]at h
  clear F n w
  refine hU _ _ _ _ _ λg=>?_
  by_cases D:st=st'
  ·by_cases J:lf=lf'
   ·have e:im st lf dd st' lf' dd'=decide (dd=dd'):=by simp[im,D,J]
    rw[e]at h
    clear e
    cases dd<;>cases dd'<;>simp at h<;>simp[ca, *,bA,b.r,c.r]<;>exact h
   ·have e:im st lf dd st' lf' dd'=false:=by simp[im,J]
    rw[e]at h
    clear e
    simp[ca, *,bA,b.r,c.r]
  ·have e:im st lf dd st' lf' dd'=false:=by simp[im,D]
   rw[e]at h
   clear e
   simp[ca, *,bA,b.r,c.r]
 | cons p s E=>
  intro t k w n I A h
  obtain⟨O,K,C,o⟩:=drop_cons w
  cases t with
  | nil=>
   have:=congrArg List.length n
   simp at this
   omega
  | cons q t=>
   obtain⟨G,z,B,v⟩:=drop_cons n
   have S:=IntWalk.i64_in ((k:Int)+1) (by omega)
   have i:=E t (k+1) C B (by omega) A
   rw[show((k+1:Nat):Int)=(k:Int)+1 from by omega]at i
   have r1:bq (an l) k 0 1 false=some (aI p.pos):=by simp[an,o,bK.enc]
   have r2:bq (an l) k 1 1 false=some p.av:=by simp[an,o,bK.enc]
   have r3:bq (an m) k 0 1 false=some (aI q.pos):=by simp[an,v,bK.enc]
   have T:bq (an m) k 1 1 false=some q.av:=by simp[an,v,bK.enc]
   have hp:=d p (by rw[<-K];exact eE _)
   have z:=a q (by rw[<-z];exact eE _)
   clear E d a w n
   generalize im st lf dd st' lf' dd'=SH at *
   refine hU _ _ _ _ _ λg=>?_
   by_cases j:p.pos=q.pos
   ·have P:=mu hp
    have L:=mu z
    by_cases u:p.bs=q.bs
    ·have e:decide (bP (p :: s)=bP (q :: t))=decide (bP s=bP t):=by rw[decide_eq_decide];simp[bP,j,u]
     rw[e]at h
     clear hp z
     have R:=i h
     clear h i
     simp[ca, *,bA,b.r,c.r,b.idx,c.idx]
    ·have e:decide (bP (p :: s)=bP (q :: t))=false:=by simp[bP,u]
     rw[e,oe]at h
     clear hp z i
     simp[ca, *,bA,b.r,c.r,b.idx,c.idx]
   ·have e:decide (bP (p :: s)=bP (q :: t))=false:=by simp[bP,j]
    rw[e,oe]at h
    clear i
    simp[ca, *,bA,b.r,c.r,b.idx,c.idx]
theorem vt{st lf st' lf':Int}{dd dd':Bool}:aN env 62 [a6 x st lf dd,a6 y st' lf' dd']=some (aB (decide (bP l=bP m)&&im st lf dd st' lf' dd')):=by
 refine fK rfl (by kernel_rfl) (l7 _ _ _ _ λg=>?_)
 by_cases i:l.length=m.length
 ·have h:=zq (st:=st) (lf:=lf) (dd:=dd) (st':=st') (lf':=lf') (dd':=dd') b d c a f (r1:=⟨0,2,0,0⟩) (r2:=⟨0,3,0,0⟩) (H:=[(⟨0,3,0,0⟩,some ⟨4,[a6 y st' lf' dd'],false,false⟩),(⟨0,2,0,0⟩,some ⟨4,[a6 x st lf dd],false,false⟩)]) (Q:=λv H'=>eK env 62 v H' (aB (decide (bP l=bP m)&&im st lf dd st' lf' dd'))) (by simp) (by simp) l m 0 rfl rfl (by omega) i (by simp)
  generalize (decide (bP l=bP m)&&im st lf dd st' lf' dd')=SH at *
  simp only[a6]at h ⊢
  simp[ca, *,fP,b.r,c.r]
  exact h
 ·have e:decide (bP l=bP m)=false:=by
   rw[decide_eq_false_iff_not]
   intro e
   have:=congrArg List.length e
   simp[bP]at this
   exact i this
  rw[e,oe]
  have j : ¬(l.length:Int)=m.length:=by omega
  simp only[a6]
  simp[ca, *,fP,b.r,c.r]
theorem DG{Q:AV->aa->Prop} : ∀(s t:List bK)(k:Nat)(H:aa),l.drop k=s->m.drop k=t->k<=l.length->l.length=m.length->Fr H->(∀H',Q (aB (decide (bP s=bP t))) H') ->
 gm env Try.f111 0 ae [(17,aI k),(2,.fn (.func 109) [] []),(1,y),(15,x),(16,aI l.length)] H Q:=by
 intro s
 induction s with
 | nil=>
  intro t k H w v G o M u
  obtain rfl:=drop_nil w G
  have:t=[]:=by rw[<-v];exact ot (by omega)
  subst this
  refine au _ _ _ _ _ _ _ λg=>?_
  have i:=u H
  simp[bP]at i
  clear u
  simp[ca, *,af]
  done
 | cons p s E=>
  intro t k H w v G o M u
  obtain⟨L,I,C,z⟩:=drop_cons w
  cases t with
  | nil=>
   have:=congrArg List.length v
   simp at this
   omega
  | cons q t=>
   obtain⟨F,i,A,B⟩:=drop_cons v
   have N:=IntWalk.i64_in ((k:Int)+1) (by omega)
   have j:=λH=>E t (k+1) H C A (by omega) o
   rw[show((k+1:Nat):Int)=(k:Int)+1 from by omega]at j
   have r1:bq (an l) k 0 2 true=some (.agg [aI p.pos,p.av]):=by simp[an,z,bK.enc]
   have r3:bq (an m) k 0 2 true=some (.agg [aI q.pos,q.av]):=by simp[an,B,bK.enc]
   have hp:=d p (by rw[<-I];exact eE _)
   have i:=a q (by rw[<-i];exact eE _)
   have D:=EK hp i
   have J:=hp.r
   have K:=i.r
   simp only[bK.enc]at D
   clear E d a w v
   refine au _ _ _ _ _ _ _ λg=>?_
   by_cases n:p.pos=q.pos/\p.bs=q.bs
   ·have e:decide (bP (p :: s)=bP (q :: t))=decide (bP s=bP t):=by rw[decide_eq_decide];simp[bP,n.1,n.2]
    rw[e]at u
    rw[decide_eq_true n]at D
    clear hp i n o
    simp[ca, *,af,b.r,c.r,b.idx,c.idx]
    refine j _ ?_ u
    exact(by simp(maxDischargeDepth:=12) [tP, *])
   ·have e:decide (bP (p :: s)=bP (q :: t))=false:=by
     rw[decide_eq_false_iff_not]
     intro h
     simp[bP]at h
     exact n h.1
    rw[e]at u
    rw[decide_eq_false n]at D
    clear hp i j n
    simp[ca, *,af,b.r,c.r,b.idx,c.idx]
theorem IB:aN env 111 [x,y,.fn (.func 109) [] []]=some (aB (decide (bP l=bP m))):=by
 refine fK rfl (by kernel_rfl) (aU _ _ _ _ _ λg=>?_)
 by_cases i:l.length=m.length
 ·have h:=DG b d c a f (Q:=λv H'=>eK env 111 v H' (aB (decide (bP l=bP m)))) l m 0 [] rfl rfl (by omega) i Fr.nil (by simp)
  have j:(l.length:Int)=m.length:=by omega
  simp[ca, *,ai,b.r,c.r]
  first | done | exact h | (rw[<-i];exact h)
 ·have e:decide (bP l=bP m)=false:=by
   rw[decide_eq_false_iff_not]
   intro e
   have:=congrArg List.length e
   simp[bP]at this
   exact i this
  rw[e]
  have j : ¬(l.length:Int)=m.length:=by omega
  simp[ca, *,ai,b.r,c.r]
theorem Aj{st lf st' lf':Int}{dd dd':Bool}:aN env 70 [a6 x st lf dd,a6 y st' lf' dd']=some (aB (decide (bP l=bP m)&&im st lf dd st' lf' dd')):=by
 refine fK rfl (by kernel_rfl) (vj _ _ _ _ λg=>?_)
 have j:=IB b d c a f
 clear d a
 by_cases h:bP l=bP m
 ·rw[decide_eq_true h]at j ⊢
  clear h
  simp only[a6,o6]
  by_cases k:st=st'
  ·by_cases i:lf=lf'
   ·have e:im st lf dd st' lf' dd'=decide (dd=dd'):=by simp[im,k,i]
    rw[e]
    clear e
    cases dd<;>cases dd'<;>simp[ca, *,jl,b.r,c.r]
   ·have e:im st lf dd st' lf' dd'=false:=by simp[im,i]
    rw[e]
    clear e
    simp[ca, *,jl,b.r,c.r]
  ·have e:im st lf dd st' lf' dd'=false:=by simp[im,k]
   rw[e]
   clear e
   simp[ca, *,jl,b.r,c.r]
 ·rw[decide_eq_false h]at j ⊢
  clear h
  simp only[a6,oe]
  simp[ca, *,jl,b.r,c.r]
end
theorem GG:aN env 56 []=some (a6 bt 0 (-1) false):=by
 refine fK rfl (by kernel_rfl) (wI _ _ λg=>?_)
 simp[ca, *,qE,a6]
theorem GF:aN env 69 []=some (a6 bt 0 (-1) false):=by
 refine fK rfl (by kernel_rfl) (mC _ _ λg=>?_)
 simp[ca, *,jm,a6]
end
section
attribute [local simp] cC bV bn bW bm kp cI bY bX eQ eP aO ej
def DW(z:Nat)(zz:AV)(H:aa)(r:Ref)(n:Nat)(a:List (Nat × AV))(refs:List Ref):bk:=match dP (List.replicate n zz) a with
 | some es=>some (.aD r 0 n (some n),(r,some ⟨z,es,true,false⟩) :: aT H refs)
 | none=>none
theorem oX{P:Program}{a:Bool}{t:TypeId}(u:la P t=true)(H:aa)(d k c:Nat)(n:Nat)(ps:List (Nat × AV))(m:n * jg P t<=16777216)(A:(cA H.get ps).isSome=true)
 (v:((cA H.get ps).getD []).all (λp=>p.2.cells.length == jg P t&&p.2.cells.all AV.one)=true) (b:(dP (List.replicate n (iH P t)) ((cA H.get ps).getD [])).isSome=true) (g:gM H.get (aP H.get (ps.map (·.2)))=false) :
 oH P a true H ⟨d,k,c,0⟩ t n (some ps)=DW (jg P t) (iH P t) H ⟨d,k,c,0⟩ n ((cA H.get ps).getD []) (aP H.get (ps.map (·.2))):=by
 obtain⟨ws,hw⟩:=fe.1 A
 rw[hw,bQ]at v b ⊢
 obtain⟨es,b⟩:=fe.1 b
 unfold la at u
 obtain⟨e,zz,q,z,E,w,y,D,B,F⟩:=eM u
 have o:iH P t=zz:=by unfold iH;rw[q,cQ,w];rfl
 rw[o]at b ⊢
 have h:mkSlice P H.get t n ps=some ⟨jg P t,es,true,false⟩:=by
  simp only[mkSlice,q,hw,w,z]
  rw[if_pos ⟨ng B,m,y,D,by simpa using v⟩,b]
  rfl
 have C:dA P a H.get ⟨d,k,c,0⟩ t n (some ps)=none:=by
  simp only[dA,g,kF,if_false]
 unfold oH DW
 rw[C,b]
 simp only[gx,tj,cond_true,eF,h,Option.map_some]
attribute [local simp] oX DW cA
def Ej(q:Int)(b:List UInt8):bK:=⟨q,b,jG 1 (cR b)⟩
def EM(s:bK):bK:=Ej s.pos s.bs
def gq(l:List bK):List bK:=l.map EM
@[simp] theorem JF(l:List bK):(gq l).length=l.length:=by simp[gq]
theorem iX(l:List bK) : ∀s∈gq l,dy s:=by
 intro s a
 obtain⟨p,_,rfl⟩:=gy.1 a
 exact eT _ _
theorem mO(l:List bK):bP (gq l)=bP l:=by simp[bP,gq,EM,Ej]
theorem Gb(st lf:Int)(dd:Bool):tH st lf dd=(if 0<=st/\st<2147483648 /\ -1<=lf/\lf<2147483648 then (!dd||decide (lf=0)) else false):=by
 unfold tH
 split
 ·rename_i h
  have a : ¬st<0:=by omega
  have e : ¬st>=2147483648:=by omega
  have b : ¬lf < -1:=by omega
  have d : ¬lf>=2147483648:=by omega
  simp only[decide_eq_false a,decide_eq_false e,decide_eq_false b,decide_eq_false d]
  cases dd<;>simp
 ·rename_i h
  cases c:(!decide (st<0) && !decide (st>=2147483648) && !decide (lf < -1) && !decide (lf>=2147483648) && !(dd && !decide (lf=0))) with
  | false=>rfl
  | true=>
   simp at c
   exact absurd (by omega) h
section
variable{l:List bK}{x:AV}{st lf:Int}{dd:Bool}(f:Sl 2 (an l) x)(i : ∀s∈l,dy s)(j:l.length<1000000)
include f i j
theorem C7{r1:Ref}{Q:AV->aa->Prop} : ∀(s:List bK)(k:Nat)(d:bK)(H:aa),l.drop (k+1)=s->l[k]?=some d->0<=d.pos->Fr H->H.get r1=some ⟨4,[a6 x st lf dd],false,false⟩ ->
 (∀H',Q (aB (dV d.pos s&&tH st lf dd)) H') ->
 gm env Try.f104 0 cM [(3,aI ((k:Int)+1)),(1,.ptr r1 0 0)] H Q:=by
 intro s
 induction s with
 | nil=>
  intro k d H t u z M w o
  have A:k<l.length:=(bL.1 u).1
  have K:l.length=k+1:=by
   have:=congrArg List.length t
   simp at this
   omega
  have J:(l.length:Int)=(k:Int)+1:=by omega
  have E:dV d.pos []=true:=rfl
  rw[E,o6]at o
  have C:=o H
  rw[Gb]at C
  clear o t i E K
  refine dR _ _ _ _ λg=>?_
  simp only[a6]at w
  simp[ca, *,aA,f.r]
  repeat' ((first | apply nD<;>intro h | apply kW<;>intro h | apply kX<;>intro h | apply kU<;>intro h | apply kV<;>intro h)<;>(try simp only[decide_eq_true_eq,decide_eq_false_iff_not,gb,nf,bR,iK]at h)<;>(try simp[ca, *]))
  all_goals first | (rw[if_pos (by omega)]at C;cases dd<;>simp_all) | (rw[if_neg (by omega)]at C;cases dd<;>simp_all)
 | cons p s y=>
  intro k d H t u z M w o
  obtain⟨L,v,q,n⟩:=drop_cons t
  have X:=IntWalk.i64_in ((k:Int)+1+1) (by omega)
  have Z:=IntWalk.i64_in (k:Int) (by omega)
  have R:(0:Int)<=(k:Int)+1:=by omega
  have hp:=(i p (by rw[<-v];exact eE _)).r
  have G:bq (an l) (k+1) 0 2 true=some (.agg [aI p.pos,p.av]):=by simp[an,n,bK.enc]
  have D:bq (an l) k 0 1 false=some (aI d.pos):=by simp[an,u,bK.enc]
  have A:(k:Int)+1<l.length:=by omega
  have F:(k:Int)<l.length:=by omega
  have I:(0:Int)<(k:Int)+1:=by omega
  have O:((k:Int)+1).toNat=k+1:=by omega
  have m:=λH=>y (k+1) p H q n
  rw[show(((k+1:Nat):Int)+1)=(k:Int)+1+1 from by omega]at m
  refine dR _ _ _ _ λg=>?_
  simp only[a6]at w m
  by_cases c:dV d.pos [p]=true
  ·have c':=c
   simp[dV]at c'
   have W : ¬p.pos<0:=by omega
   have Y : ¬p.pos>=6146:=by omega
   have q3 : ¬p.pos<=d.pos:=by omega
   have T:(p.bs.length:Int)=128:=by omega
   have e:dV d.pos (p :: s)=dV p.pos s:=by simp[dV];simp[dV]at c;simp[c]
   rw[e]at o
   have B:=λH a b=>m H (by omega) a b o
   clear y m i t u v q n c c' o
   simp[ca, *,aA,f.r,f.idx]
   refine B _ (by simp(maxDischargeDepth:=12) [z7, *]) (by simp(maxDischargeDepth:=12) [z7, *])
  ·have c':p.pos<0\/p.pos>=6146\/p.pos<=d.pos \/¬(p.bs.length:Int)=128:=by
    simp[dV]at c
    omega
   have e:dV d.pos (p :: s)=false:=by
    cases h:dV d.pos (p :: s) with
    | false=>rfl
    | true=>
     exfalso
     apply c
     simp[dV]at h ⊢
     exact h.1
   rw[e,oe]at o
   clear y m i t u v q n c e
   by_cases P:p.pos<0
   ·clear c'
    simp[ca, *,aA,f.r,f.idx]
   ·by_cases U:6146<=p.pos
    ·clear c'
     simp[ca, *,aA,f.r,f.idx]
    ·by_cases V:p.pos<=d.pos
     ·clear c'
      simp[ca, *,aA,f.r,f.idx]
     ·have S : ¬p.bs.length=128:=by omega
      have N : ¬(p.bs.length:Int)=128:=by omega
      clear c'
      simp[ca, *,aA,f.r,f.idx]
theorem pX:aN env 104 [a6 x st lf dd]=some (aB (mr l st lf dd)):=by
 refine fK rfl (by kernel_rfl) (mD _ _ _ λg=>?_)
 have z : ∀(r1:Ref)(Q:AV->aa->Prop)(H:aa),Fr H->H.get r1=some ⟨4,[a6 x st lf dd],false,false⟩->(∀H',Q (aB (mr l st lf dd)) H')->gm env Try.f104 0 cM [(3,aI 0),(1,.ptr r1 0 0)] H Q:=by
  intro r1 Q H N t n
  unfold mr at n
  cases k:l with
  | nil=>
   have u:dV (-1) l=true:=by rw[k];rfl
   rw[u,o6,Gb]at n
   have v:=n H
   have w:(l.length:Int)=0:=by rw[k];rfl
   clear n i u k
   refine dR _ _ _ _ λg=>?_
   simp only[a6]at t
   simp[ca, *,aA,f.r]
   repeat' ((first | apply nD<;>intro h | apply kW<;>intro h | apply kX<;>intro h | apply kU<;>intro h | apply kV<;>intro h)<;>(try simp only[decide_eq_true_eq,decide_eq_false_iff_not,gb,nf,bR,iK]at h)<;>(try simp[ca, *]))
   all_goals first | (rw[if_pos (by omega)]at v;cases dd<;>simp_all) | (rw[if_neg (by omega)]at v;cases dd<;>simp_all)
  | cons p s=>
   have L:=IntWalk.i64_in ((0:Int)+1) (by omega)
   have hp:=(i p (by rw[k];simp)).r
   have m:l[0]?=some p:=by rw[k];rfl
   have o:l.drop (0+1)=s:=by rw[k];rfl
   have A:bq (an l) 0 0 2 true=some (.agg [aI p.pos,p.av]):=by simp[an,m,bK.enc]
   have C:0<l.length:=by rw[k];simp
   have B:(0:Int)<l.length:=by omega
   have d:=λH=>C7 (st:=st) (lf:=lf) (dd:=dd) f i j (r1:=r1) (Q:=Q) s 0 p H o m
   rw[show(((0:Nat):Int)+1)=1 from rfl]at d
   refine dR _ _ _ _ λg=>?_
   simp only[a6]at t d
   by_cases c:dV (-1) [p]=true
   ·have c':=c
    simp[dV]at c'
    have K : ¬p.pos<0:=by omega
    have M : ¬p.pos>=6146:=by omega
    have I:(p.bs.length:Int)=128:=by omega
    have e:dV (-1) l=dV p.pos s:=by rw[k];simp[dV];simp[dV]at c;simp[c]
    rw[e]at n
    have q:=λH a b=>d H (by omega) a b n
    clear d i m o c c' n k
    simp[ca, *,aA,f.r,f.idx]
    refine q _ (by simp(maxDischargeDepth:=12) [z7, *]) (by simp(maxDischargeDepth:=12) [z7, *])
   ·have c':p.pos<0\/p.pos>=6146 \/¬(p.bs.length:Int)=128:=by
     simp[dV]at c
     omega
    have e:dV (-1) l=false:=by
     rw[k]
     cases h:dV (-1) (p :: s) with
     | false=>rfl
     | true=>
      exfalso
      apply c
      simp[dV]at h ⊢
      exact h.1
    rw[e,oe]at n
    clear d i m o c e k
    by_cases F:p.pos<0
    ·clear c'
     simp[ca, *,aA,f.r,f.idx]
    ·by_cases J:6146<=p.pos
     ·clear c'
      simp[ca, *,aA,f.r,f.idx]
     ·have G : ¬p.bs.length=128:=by omega
      have E : ¬(p.bs.length:Int)=128:=by omega
      clear c'
      simp[ca, *,aA,f.r,f.idx]
 have h:=z ⟨0,1,0,0⟩ (λy H'=>view H'.get 8 y=some (aB (mr l st lf dd))) [(⟨0,1,0,0⟩,some ⟨4,[a6 x st lf dd],false,false⟩)] (by simp(maxDischargeDepth:=12) [z7, *]) (by simp) (by simp)
 generalize mr l st lf dd=D at *
 simp only[a6]at h ⊢
 simp[ca, *,jn,f.r]
 first | done | exact h
theorem CB:aN env 68 [a6 x st lf dd]=some (aI (if mr l st lf dd then 0 else 8)):=by
 refine fK rfl (by kernel_rfl) (lJ _ _ _ λg=>?_)
 have a:=pX (st:=st) (lf:=lf) (dd:=dd) f i j
 generalize mr l st lf dd=D at *
 simp only[a6]at a ⊢
 cases D<;>simp[ca, *,iz,f.r]
def BN(l:List bK)(q:Int):List UInt8:=match l with
 | []=>List.replicate 128 0
 | p :: l=>if p.pos=q then p.bs else BN l q
end
end
section
attribute [local simp] cC bV bn bW bm kp cI bY bX eQ eP aO ej
attribute [local simp] oX DW cA
section
variable{l:List bK}{x:AV}{st lf:Int}{dd:Bool}(d:Sl 2 (an l) x)(a : ∀s∈l,dy s)(f:l.length<1000000)
include d a f
theorem Fz(b : ∀s∈l,s.bs.length=128){q:Int}{r1:Ref}{Q:AV->aa->Prop}{H:aa}(S:Fr H)(D:H.get r1=some ⟨4,[a6 x st lf dd],false,false⟩) :
 ∀(s:List bK)(k:Nat),l.drop k=s->k<=l.length->(∀y H',(∀n,view H'.get (n+1) y=some (.cE 1 (cR (BN s q)) none))->Q y H') ->
 gm env Try.f107 0 ed [(5,aI k),(2,.ptr r1 0 0),(1,aI q)] H Q:=by
 intro s
 induction s with
 | nil=>
  intro k u K m
  obtain rfl:=drop_nil u K
  have F:=so (P:=env.P) (t:=98) (z:=1) (by':=1) (zz:=a8 0) (r:=⟨0,28,H.gen 0 28,0⟩) (by kernel_rfl) (by kernel_rfl) (n:=128) (by decide) (by decide)
  obtain⟨Z,C⟩ : ∃Z:List UInt8,Z=List.replicate 128 0:=⟨_,rfl⟩
  have G:Z.length=128:=by rw[C];rfl
  rw[show List.replicate 128 (a8 0)=cR Z from by rw[C];rfl,show((128:Nat):Int)=128 from rfl]at F
  have e:BN [] q=Z:=by rw[C];rfl
  rw[e]at m
  clear C e a b u
  refine fE _ _ _ _ _ λg=>?_
  simp only[a6]at D
  simp[ca, *,ee,d.r]
  first | done | exact m _ _ (λn=>by simp[G])
 | cons p s E=>
  intro k u K m
  obtain⟨N,L,o,v⟩:=drop_cons u
  have R:=IntWalk.i64_in ((k:Int)+1) (by omega)
  have B:p∈l:=by rw[<-L];exact eE _
  have hp:=a p B
  have j:=b p B
  have r1:bq (an l) k 0 1 false=some (aI p.pos):=by simp[an,v,bK.enc]
  have r2:bq (an l) k 1 1 false=some p.av:=by simp[an,v,bK.enc]
  have i:=E (k+1) o (by omega)
  rw[show((k+1:Nat):Int)=(k:Int)+1 from by omega]at i
  by_cases w:p.pos=q
  ·have e:BN (p :: s) q=p.bs:=by show(if p.pos=q then _ else _)=_;rw[if_pos w]
   rw[e]at m
   have I:cR p.bs≠[]:=by
    intro h
    have:=congrArg List.length h
    rw[jh,j]at this
    cases this
   have A:(cR p.bs).length=128:=by rw[jh];exact j
   clear E i a b e u o B
   refine fE _ _ _ _ _ λg=>?_
   simp only[a6]at D
   have J : ¬p.bs=[]:=by
    intro h
    rw[h]at j;cases j
   rcases hp with ⟨h,M⟩ | ⟨c,h,_⟩
   ·exact absurd M I
   ·rw[h]at r2
    simp[ca, *,ee,d.r,d.idx,pL]
    first | done | exact m _ _ (λn=>by simp[A])
  ·have e:BN (p :: s) q=BN s q:=by show(if p.pos=q then _ else _)=_;rw[if_neg w]
   rw[e]at m
   have O:=i m
   clear E i a b u o B m
   refine fE _ _ _ _ _ λg=>?_
   simp only[a6]at D
   simp[ca, *,ee,d.r,d.idx]
theorem IA(b : ∀s∈l,s.bs.length=128)(q:Int):aN env 107 [a6 x st lf dd,aI q]=some (.cE 1 (cR (BN l q)) none):=by
 refine fK rfl (by kernel_rfl) (m9 _ _ _ _ λg=>?_)
 have h:=Fz (st:=st) (lf:=lf) (dd:=dd) d a f b (q:=q) (r1:=⟨0,2,0,0⟩) (Q:=λy H'=>view H'.get 8 y=some (.cE 1 (cR (BN l q)) none)) (H:=[(⟨0,2,0,0⟩,some ⟨4,[a6 x st lf dd],false,false⟩)]) (by simp(maxDischargeDepth:=12) [z7, *]) (by simp) l 0 rfl (by omega) (λy H' c=>c 7)
 simp only[a6]at h ⊢
 simp[ca, *,jz,d.r]
 first | done | exact h
theorem EL{q:Int}:aN env 66 [a6 x st lf dd,aI q]=some (
 if mr l st lf dd then (if 0<=q/\q<6146 then .tup [.cE 1 (cR (BN l q)) none,aI 0] else .tup [bt,aI 2]) else .tup [bt,aI 8]):=by
 refine fK rfl (by kernel_rfl) (l8 _ _ _ _ λg=>?_)
 have c:=pX (st:=st) (lf:=lf) (dd:=dd) d a f
 cases b:mr l st lf dd
 ·rw[b]at c
  simp only[a6]at c ⊢
  simp[ca, *,cZ,d.r]
 ·rw[b]at c
  by_cases e:0<=q/\q<6146
  ·have j:=IA (st:=st) (lf:=lf) (dd:=dd) d a f (lD l (-1) (iC b)) q
   simp only[a6]at c j ⊢
   rw[if_pos e]
   have i : ¬q<0:=by omega
   have h : ¬6146<=q:=by omega
   clear a b
   simp[ca, *,cZ,d.r]
  ·simp only[a6]at c ⊢
   rw[if_neg e]
   clear a b
   by_cases i:q<0
   ·clear e
    simp[ca, *,cZ,d.r]
   ·have h:6146<=q:=by omega
    clear e
    simp[ca, *,cZ,d.r]
theorem yZ(q : ∀s∈l,s.bs.length<1000000000){r1 r2:Ref}(n3:r1≠r2){Q:AV->aa->Prop} : ∀(s:List bK)(k:Nat)(c:List bK)(u:AV)(H:aa),l.drop k=s->k<=l.length->c.length=k->Fr H->H.get r1=some ⟨4,[a6 x st lf dd],false,false⟩->H.get r2=some ⟨4,[a6 bt 0 0 false],false,false⟩->r1.t≠28->r2.t≠28 ->
 lG [28] 2 (an c) H u->(c=[]->u=bt) ->
 (∀y H',lG [28] 2 (an (c++gq s)) H' y->(c++gq s=[]->y=bt)->Q (a6 y st lf dd) H') ->
 gm env Try.f63 0 dG [(4,aI k),(1,.ptr r1 0 0),(3,u),(2,.ptr r2 0 0)] H Q:=by
 intro s
 induction s with
 | nil=>
  intro k c u H M W V hF P S w v E L D
  obtain rfl:=drop_nil M W
  have e:c++gq []=c:=by simp[gq]
  rw[e]at D
  have n4:r2≠r1:=λe=>n3 e.symm
  have Kp:u.cells=[u]/\u.one=true:=by
   rcases E with ⟨rfl,_⟩ | ⟨t,g,_,rfl,_⟩<;>exact⟨rfl,rfl⟩
  have I : ∀b J,lG [28] 2 (an c) ((H.put r1 b).put r2 J) u:=by
   intro b J
   rcases E with h | ⟨t,g,z,rfl,hh⟩
   ·exact .inl h
   ·have R:t=28:=by simpa using z
    subst R
    refine .inr ⟨28,g,z,rfl,?_⟩
    have m1 : ¬(⟨0,28,g,0⟩:Ref)=r1:=λe=>w (by rw[<-e])
    have m2 : ¬(⟨0,28,g,0⟩:Ref)=r2:=λe=>v (by rw[<-e])
    rw[aa.aj,if_neg m2,aa.aj,if_neg m1]
    exact hh
  have n:=λb J=>D u _ (I b J) L
  clear D I E L a q M
  refine hP _ _ _ _ _ _ λg=>?_
  simp only[a6]at P S n
  simp[ca, *,bZ,d.r,aa.aj]
  done
 | cons p s X=>
  intro k c u H M W V hF P S w v E L D
  obtain⟨Ks,hg,O,G⟩:=drop_cons M
  have K:p∈l:=by rw[<-hg];exact eE _
  have hp:=a p K
  have Ko:=q p K
  have e3:=IntWalk.i64_in ((k:Int)+1) (by omega)
  have x6:bq (an l) k 0 1 false=some (aI p.pos):=by simp[an,G,bK.enc]
  have Kt:bq (an l) k 1 1 false=some p.av:=by simp[an,G,bK.enc]
  have o:=λU H'=>X (k+1) (c++[EM p]) U H' O (by omega) (by simp;omega)
  rw[show((k+1:Nat):Int)=(k:Int)+1 from by omega]at o
  have n : ∀y H',lG [28] 2 (an ((c++[EM p])++gq s)) H' y->(((c++[EM p])++gq s)=[]->y=bt)->Q (a6 y st lf dd) H':=λy H' h hn=>D y H' (by simpa [gq] using h) (λe=>by simp[gq]at e)
  clear D L X
  have F:(EM p).enc = .agg [aI p.pos,jG 1 (cR p.bs)]:=rfl
  have j : ∀(g m:Nat)(H':aa),m=c.length+1->H'.get ⟨0,28,g,0⟩=some ⟨2,an c++[.agg [aI p.pos,jG 1 (cR p.bs)]],true,false⟩->lG [28] 2 (an (c++[EM p])) H' (.aD ⟨0,28,g,0⟩ 0 m none):=by
   intro g m H' K h
   subst K
   exact .inr ⟨28,g,by simp,by simp,by rw[h];simp[an,F]⟩
  have Kr:(cR p.bs).length=p.bs.length:=by simp
  have Kn:p.bs.length * 1<=140737488355328:=by omega
  have Z:=hp.eL
  refine hP _ _ _ _ _ _ λg=>?_
  simp only[a6]at P S o n
  clear a q
  have Kq:p.bs.length<=140737488355328:=by omega
  by_cases Y:p.bs=[]
  ·have T:jG 1 (cR p.bs)=bt:=by rw[Y];rfl
   rw[T]at j
   rcases E with ⟨rfl,N⟩ | ⟨t,B,z,rfl,A⟩
   ·have C:c=[]:=by simpa [an] using N
    subst C
    have i:=j (H.gen 0 28) 1
    simp[ca, *,bZ,d.r,d.idx,hp.r,hp.eL,pL]
    exact o _ _ (by simp(maxDischargeDepth:=12) [tP, *]) (by simp(maxDischargeDepth:=12) [tP, *]) (by simp(maxDischargeDepth:=12) [tP, *]) w v (i _ rfl (by simp[an])) (λe=>by simp at e) n
   ·rw[kE]at z
    subst z
    have l6:(H.get ⟨0,28,B,0⟩).isSome=true:=by rw[A];rfl
    have w1 : ¬r1=(⟨0,28,B,0⟩:Ref):=λe=>w (by rw[e])
    have w2 : ¬r2=(⟨0,28,B,0⟩:Ref):=λe=>v (by rw[e])
    have f4:ky 2 32 c.length true none (some ⟨2,an c,true,false⟩) (some [.agg [aI p.pos,bt]]):=by
     simp;omega
    have i:=λH'=>j (H.gen 0 28) (c.length+1) H' rfl
    clear j V
    simp[ca, *,bZ,d.r,d.idx,hp.r,hp.eL,pL]
    exact o _ _ (by simp(maxDischargeDepth:=12) [tP, *]) (by simp(maxDischargeDepth:=12) [tP, *]) (by simp(maxDischargeDepth:=12) [tP, *]) w v (i _ (by simp)) (λe=>by simp at e) n
  ·have T:jG 1 (cR p.bs) = .cE 1 (cR p.bs) none:=vD 1 (by simpa [cR] using Y)
   rw[T]at j
   rcases E with ⟨rfl,N⟩ | ⟨t,B,z,rfl,A⟩
   ·have C:c=[]:=by simpa [an] using N
    subst C
    have i:=j (H.gen 0 28) 1
    simp[ca, *,bZ,d.r,d.idx,hp.r,hp.eL,pL]
    exact o _ _ (by simp(maxDischargeDepth:=12) [tP, *]) (by simp(maxDischargeDepth:=12) [tP, *]) (by simp(maxDischargeDepth:=12) [tP, *]) w v (i _ rfl (by simp[an])) (λe=>by simp at e) n
   ·rw[kE]at z
    subst z
    have l6:(H.get ⟨0,28,B,0⟩).isSome=true:=by rw[A];rfl
    have w1 : ¬r1=(⟨0,28,B,0⟩:Ref):=λe=>w (by rw[e])
    have w2 : ¬r2=(⟨0,28,B,0⟩:Ref):=λe=>v (by rw[e])
    have f4:ky 2 32 c.length true none (some ⟨2,an c,true,false⟩) (some [.agg [aI p.pos,.cE 1 (cR p.bs) none]]):=by
     simp;omega
    have i:=λH'=>j (H.gen 0 28) (c.length+1) H' rfl
    clear j V
    simp[ca, *,bZ,d.r,d.idx,hp.r,hp.eL,pL]
    exact o _ _ (by simp(maxDischargeDepth:=12) [tP, *]) (by simp(maxDischargeDepth:=12) [tP, *]) (by simp(maxDischargeDepth:=12) [tP, *]) w v (i _ (by simp)) (λe=>by simp at e) n
theorem qV(b : ∀s∈l,s.bs.length<1000000000):aN env 63 [a6 x st lf dd]=some (a6 (jG 2 (an (gq l))) st lf dd):=by
 refine fK rfl (by kernel_rfl) (l5 _ _ _ λg=>?_)
 have h:=yZ (st:=st) (lf:=lf) (dd:=dd) d a f b (r1:=⟨0,1,0,0⟩) (r2:=⟨0,2,0,0⟩) (by simp) (Q:=λy H'=>view H'.get 8 y=some (a6 (jG 2 (an (gq l))) st lf dd)) l 0 [] bt [(⟨0,2,0,0⟩,some ⟨4,[a6 bt 0 0 false],false,false⟩),(⟨0,1,0,0⟩,some ⟨4,[a6 x st lf dd],false,false⟩)] rfl (by omega) rfl (by simp(maxDischargeDepth:=12) [z7, *]) (by simp) (by simp) (by simp) (by simp) (.inl ⟨rfl,rfl⟩) (λ_=>rfl) (λy H' j k=>by
  rw[mZ]at j k
  unfold a6
  rcases j with ⟨rfl,m⟩ | ⟨t,n,o,rfl,c⟩
  ·rw[m];simp[jG]
  ·have i:an (gq l)≠[]:=by
    intro e
    have:gq l=[]:=by simpa [an] using e
    cases k this
   rw[vD 2 i]
   rw[pI]at *
   simp[c])
 rw[show((0:Nat):Int)=0 from rfl]at h
 generalize jG 2 (an (gq l))=W at *
 simp only[a6]at h ⊢
 simp[ca, *,iR,d.r]
 first | done | exact h
theorem A6(n:Int)(b : -9223372036854775808<=st+1/\st+1<=9223372036854775807):aN env 105 [a6 x st lf dd,aI n]=some (a6 x (st+1) n false):=by
 refine fK rfl (by kernel_rfl) (kI _ _ _ _ λg=>?_)
 have c:=IntWalk.i64_in (st+1) b
 simp only[a6]
 simp[ca, *,gN,d.r]
theorem CA(n:Int):aN env 64 [a6 x st lf dd,aI n]=some (
 if mr l st lf dd then (if n < -1\/2147483648<=n then .tup [jP,aI 2] else if st+1>=2147483648 then .tup [jP,aI 9] else .tup [a6 (jG 2 (an (gq l))) (st+1) n false,aI 0]) else .tup [jP,aI 8]):=by
 refine fK rfl (by kernel_rfl) (lH _ _ _ _ λg=>?_)
 have i:=pX (st:=st) (lf:=lf) (dd:=dd) d a f
 cases c:mr l st lf dd
 ·rw[c]at i
  simp only[a6,jP]at i ⊢
  simp[ca, *,cN,d.r]
 ·rw[c]at i
  have u : -1<st/\st<2147483648:=by
   unfold mr tH at c
   simp at c
   omega
  have b : ∀s∈l,s.bs.length<1000000000:=λs o=>by
   have:=lD l (-1) (iC c) s o
   omega
  have q:=qV (st:=st) (lf:=lf) (dd:=dd) d a f b
  have e:=eT 2 (an (gq l))
  have m:=A6 (st:=st) (lf:=lf) (dd:=dd) e (iX l) (by simp;omega) n (by omega)
  generalize jG 2 (an (gq l))=W at *
  have p:=e.r
  simp only[a6,jP]at i q m ⊢
  clear a c b
  by_cases j:n < -1\/2147483648<=n
  ·simp only[if_pos j]
   simp[ca, *,cN,d.r]
   repeat' ((first | apply nD<;>intro h | apply kW<;>intro h | apply kX<;>intro h | apply kU<;>intro h | apply kV<;>intro h)<;>(try simp only[decide_eq_true_eq,decide_eq_false_iff_not,gb,nf,bR,iK]at h)<;>(try simp[ca, *]))
   all_goals omega
  ·simp only[if_neg j]
   have v : ¬n < -1:=by omega
   have y : ¬2147483648<=n:=by omega
   by_cases k:st+1>=2147483648
   ·simp only[if_pos k]
    have t:st=2147483647:=by omega
    subst t
    simp[ca, *,cN,d.r]
   ·simp only[if_neg k]
    have w : ¬st=2147483647:=by omega
    simp[ca, *,cN,d.r]
end
end
section
def iv:List FuncId:=[67,54,55,58,102]
def kM:List FuncId:=[101,108,71]
def GV:List FuncId:=[102,108,67,54,55,58,71,14,101]
noncomputable def Gt:FuncId->List AV->aa->Option (AV × aa):=λf args H=>if f=101 then lC Try.prog 91 40 25 args H else if f=108 then mq 2 32 5 7 args H else none
theorem ED(f:FuncId)(args:List AV)(H:aa)(y:AV)(H':aa)(h:Gt f args H=some (y,H')):dC Try.prog (.fn f) args H y H':=by
 unfold Gt at h
 split at h
 ·rename_i e;subst e;exact BI args H y H' h
 ·split at h
  ·rename_i e;subst e;exact xR args H y H' h
  ·cases h
noncomputable def ar:Env:=Ae (k6 Try.prog fns iv kM (rX [(27,1,88888)]) (l9 []) (yP [(27,1,88888)]) [] (λ_=>false) (λ_=>none) Gt zg) (λf args=>if GV.contains f then none else aN env f args)
@[simp] noncomputable def z5(h:aa)(n:Nat)(v:AV)(k:AV->aa->Prop):Prop:=ga (aL ar false (aN ar) (cB ar 0) h (Ref.mk 0 n (aa.gen h 0 n) 0) (some (.fn (.func 102) [] [])) [v]) k
@[simp] noncomputable def B7(h:aa)(n:Nat)(v a:AV)(k:AV->aa->Prop):Prop:=ga (aL ar true (aN ar) (cB ar 0) h (Ref.mk 0 n (aa.gen h 0 n) 0) (some (.fn (.func 100) [] [])) [v,a]) k
@[simp] noncomputable def B6(h:aa)(n:Nat)(v:AV)(k:AV->aa->Prop):Prop:=ga (aL ar true (aN ar) (cB ar 0) h (Ref.mk 0 n (aa.gen h 0 n) 0) (some (.fn (.func 71) [] [])) [v]) k
@[simp] noncomputable def B5(h:aa)(n:Nat)(v:AV)(k:AV->aa->Prop):Prop:=ga (aL ar true (aN ar) (cB ar 0) h (Ref.mk 0 n (aa.gen h 0 n) 0) (some (.fn (.func 67) [] [])) [v]) k
@[simp] noncomputable def B4(h:aa)(n:Nat)(v a:AV):=aL ar false (aN ar) (cB ar 0) h (Ref.mk 0 n (aa.gen h 0 n) 0) (some (.fn (.func 62) [] [])) [v,a]
@[simp] noncomputable def FI(h:aa)(n:Nat)(v a:AV)(k:AV->aa->Prop):Prop:=ga (aL ar false (aN ar) (cB ar 0) h (Ref.mk 0 n (aa.gen h 0 n) 0) (some (.fn (.func 62) [] [])) [v,a]) k
@[simp] noncomputable def FH(h:aa)(n:Nat)(v a b:AV)(k:AV->aa->Prop):Prop:=ga (aL ar true (aN ar) (cB ar 0) h (Ref.mk 0 n (aa.gen h 0 n) 0) (some (.fn (.func 101) [] [])) [v,a,b]) k
@[simp] noncomputable def FG(h:aa)(n:Nat)(v a:AV)(k:AV->aa->Prop):Prop:=ga (aL ar true (aN ar) (cB ar 0) h (Ref.mk 0 n (aa.gen h 0 n) 0) (some (.fn (.func 99) [] [])) [v,a]) k
@[simp] noncomputable def FF(h:aa)(n:Nat)(v:AV)(k:AV->aa->Prop):Prop:=ga (aL ar true (aN ar) (cB ar 0) h (Ref.mk 0 n (aa.gen h 0 n) 0) (some (.fn (.func 102) [] [])) [v]) k
@[simp] noncomputable def FE(h:aa)(n:Nat)(v a:AV):=aL ar false (aN ar) (cB ar 0) h (Ref.mk 0 n (aa.gen h 0 n) 0) (some (.fn (.func 70) [] [])) [v,a]
theorem Fj:qz (k6 Try.prog fns iv kM (rX [(27,1,88888)]) (l9 []) (yP [(27,1,88888)])) fns=true:=by kernel_rfl
theorem Ht:ar.Ok (nA ar):=Cu (λf args y h=>by
 split at h
 ·cases h
 ·exact Br vR h) (by kernel_rfl) Fj (λf t h=>by cases h) ED
theorem ia{f:FuncId}{args:List AV}{y:AV}(h:GV.contains f=false)(a:aN env f args=some y):aN ar f args=some y:=Bq (by
 show(if GV.contains f then none else aN env f args)=some y
 rw[h]
 exact a)
@[simp] theorem JO{f:FuncId}(h:kM.contains f=false):(ar.mode f == 2)=false:=by
 show((if iv.contains f then (if kM.contains f then 3 else 1) else if kM.contains f then 2 else 0) == 2)=false
 rw[h]
 split<;>rfl
@[simp] theorem IV{f:FuncId}(h:kM.contains f=false):(ar.mode f == 3)=false:=by
 show((if iv.contains f then (if kM.contains f then 3 else 1) else if kM.contains f then 2 else 0) == 3)=false
 rw[h]
 split<;>rfl
theorem G6{f:FuncId}(h:iv.contains f=false):lK (ar.mode f)=false:=by
 show lK (if iv.contains f then (if kM.contains f then 3 else 1) else if kM.contains f then 2 else 0)=false
 rw[h]
 cases kM.contains f<;>rfl
@[simp] theorem I5{f:FuncId}(h:iv.contains f=false)(x:AV)(H:aa)(y:AV):eK ar f x H y↔view H.get depth x=some y:=uI (G6 h) x H y
theorem G0{f:FuncId}(h:iv.contains f=true):lK (ar.mode f)=true:=by
 show lK (if iv.contains f then (if kM.contains f then 3 else 1) else if kM.contains f then 2 else 0)=true
 rw[h]
 cases kM.contains f<;>rfl
@[simp] theorem iw{f:FuncId}(h:iv.contains f=true)(x:AV)(H:aa)(y:AV):eK ar f x H y↔(ab H.get depth x).Nodup/\aG H.get depth x=some y:=xE (G0 h) x H y
end
section
attribute [local simp] cC bV bn bW bm kp cI bY bX eQ eP aO ej
attribute [local simp] oX DW cA
def uF(l:List bK)(q:Int):List bK:=l.filter λs=>decide (s.pos<q)
def sR(l:List bK)(q:Int):List bK:=l.filter λs=>decide (q<s.pos)
def fA(l:List bK)(q:Int)(b:List UInt8):List bK:=uF l q++Ej q b :: sR l q
section
variable{l:List bK}{x:AV}(c:Sl 2 (an l) x)(a : ∀s∈l,dy s)(d:l.length<1000000){q:Int}
include c a d
theorem yI{Q:AV->aa->Prop} : ∀(s:List bK)(k:Nat)(b:List bK)(n:AV)(H:aa),l.drop k=s->k<=l.length->b.length<=1000001+k->b≠[]->Fr H->lG [29,36] 2 (an b) H n ->
 (∀y H',lG [29,36] 2 (an (b++sR s q)) H' y->Q y H') ->
 gm env Try.f138 0 cG [(9,aI k),(0,x),(7,n),(1,aI q)] H Q:=by
 intro s
 induction s with
 | nil=>
  intro k b n H E K G j L B i
  obtain rfl:=drop_nil E K
  have w:=i n H (by simpa [sR] using B)
  clear i B a
  refine eY _ _ _ _ _ _ λg=>?_
  simp[ca, *,dI,c.r]
  done
 | cons p s A=>
  intro k b n H E K G j L B i
  obtain⟨T,M,v,o⟩:=drop_cons E
  have hp:=a p (by rw[<-M];exact eE _)
  have U:=IntWalk.i64_in ((k:Int)+1) (by omega)
  have N:bq (an l) k 0 1 false=some (aI p.pos):=by simp[an,o,bK.enc]
  have P:bq (an l) k 0 2 true=some (.agg [aI p.pos,p.av]):=by simp[an,o,bK.enc]
  have R:=hp.r
  rcases B with ⟨_,S⟩ | ⟨t,F,m,rfl,u⟩
  ·exact absurd (by simpa [an] using S) j
  by_cases J:q<p.pos
  ·have e:=λD H'=>A (k+1) (b++[p]) D H' v (by omega) (by simp;omega) (by simp)
   rw[show((k+1:Nat):Int)=(k:Int)+1 from by omega]at e
   have f:sR (p :: s) q=p :: sR s q:=by simp[sR,J]
   rw[f]at i
   have w : ∀y H',lG [29,36] 2 (an ((b++[p])++sR s q)) H' y->Q y H':=λy H' h=>i y H' (by simpa using h)
   have V:ky 2 32 b.length true none (some ⟨2,an b,true,false⟩) (some [.agg [aI p.pos,p.av]]):=by
    simp;omega
   have W:(H.get ⟨0,t,F,0⟩).isSome=true:=by rw[u];rfl
   have I : ∀(z:Nat)(H':aa),H'.get ⟨0,t,z,0⟩=some ⟨2,an b++[.agg [aI p.pos,p.av]],true,false⟩->lG [29,36] 2 (an (b++[p])) H' (.aD ⟨0,t,z,0⟩ 0 (b.length+1) none):=by
    intro z H' h
    exact .inr ⟨t,z,m,by simp,by rw[h];simp[an,bK.enc]⟩
   have C:t=29\/t=36:=by simpa using m
   clear i A a G f m
   refine eY _ _ _ _ _ _ λg=>?_
   rcases C with rfl | rfl
   all_goals
    simp[ca, *,dI,c.r,c.idx]
    exact e _ _ (by simp(maxDischargeDepth:=12) [tP, *]) (I _ _ (by simp)) w
  ·have e:=λH'=>A (k+1) b (.aD ⟨0,t,F,0⟩ 0 (an b).length none) H' v (by omega) (by omega) j
   rw[show((k+1:Nat):Int)=(k:Int)+1 from by omega]at e
   have f:sR (p :: s) q=sR s q:=by simp[sR,J]
   rw[f]at i
   have O:=e H L (.inr ⟨t,F,m,rfl,u⟩) i
   rw[pI]at O
   clear i A a G f m e
   refine eY _ _ _ _ _ _ λg=>?_
   simp[ca, *,dI,c.r,c.idx]
   done
theorem yJ{U:AV}{b:List UInt8}(A:Sl 1 (cR b) U)(Kq:b.length<1000000000){Q:AV->aa->Prop}(N : ∀y H',lG [29,36] 2 (an (fA l q b)) H' y->Q y H') : ∀(s:List bK)(k:Nat)(e:List bK)(F:AV)(H:aa),l.drop k=s->k<=l.length->e.length<=k->e++uF s q=uF l q->Fr H->lG [29] 2 (an e) H F ->
 gm env Try.f138 0 cH [(8,aI k),(0,x),(7,F),(1,aI q),(2,U)] H Q:=by
 intro s
 induction s with
 | nil=>
  intro k e F H P W R j Y E
  obtain rfl:=drop_nil P W
  have n:e=uF l q:=by rw[<-j];simp[uF]
  have Kr:=A.r
  have Z:=A.eL
  have Ko:b.length<=140737488355328:=by omega
  have J:=λD H'=>yI (q:=q) c a d (Q:=Q) l 0 (e++[Ej q b]) D H' rfl (by omega) (by simp;omega) (by simp)
  have C : ∀y H',lG [29,36] 2 (an ((e++[Ej q b])++sR l q)) H' y->Q y H':=λy H' h=>N y H' (by
   have:(e++[Ej q b])++sR l q=fA l q b:=by rw[n];simp[fA]
   rw[<-this];exact h)
  rw[show((0:Nat):Int)=0 from rfl]at J
  have i : ∀(t B m:Nat)(H':aa),t=29\/t=36->m=e.length+1->H'.get ⟨0,t,B,0⟩=some ⟨2,an e++[.agg [aI q,jG 1 (cR b)]],true,false⟩->lG [29,36] 2 (an (e++[Ej q b])) H' (.aD ⟨0,t,B,0⟩ 0 m none):=by
   intro t B m H' z S h
   subst S
   exact .inr ⟨t,B,by rcases z with rfl | rfl<;>simp,by simp,by rw[h];simp[an,bK.enc,Ej]⟩
  clear N a j n P
  refine eZ _ _ _ _ _ _ _ λg=>?_
  by_cases I:b=[]
  ·have T:jG 1 (cR b)=bt:=by rw[I];rfl
   rw[T]at i
   rcases E with ⟨rfl,K⟩ | ⟨t,L,z,rfl,o⟩
   ·have w:e=[]:=by simpa [an] using K
    subst w
    have f:=i 36 (H.gen 0 36) 1
    simp[ca, *,bc,c.r,c.idx,A.r,A.eL,pL]
    exact J _ _ (by simp(maxDischargeDepth:=12) [tP, *]) (f _ (.inr rfl) rfl (by simp[an])) C
   ·rw[kE]at z
    subst z
    have l6:(H.get ⟨0,29,L,0⟩).isSome=true:=by rw[o];rfl
    have X:ky 2 32 e.length true none (some ⟨2,an e,true,false⟩) (some [.agg [aI q,bt]]):=by
     simp;omega
    have f:=λH'=>i 29 (H.gen 0 29) (e.length+1) H' (.inl rfl) rfl
    clear i R
    simp[ca, *,bc,c.r,c.idx,A.r,A.eL,pL]
    exact J _ _ (by simp(maxDischargeDepth:=12) [tP, *]) (f _ (by simp)) C
  ·have T:jG 1 (cR b) = .cE 1 (cR b) none:=vD 1 (by simpa [cR] using I)
   rw[T]at i
   rcases E with ⟨rfl,K⟩ | ⟨t,L,z,rfl,o⟩
   ·have w:e=[]:=by simpa [an] using K
    subst w
    have f:=i 36 (H.gen 0 36) 1
    simp[ca, *,bc,c.r,c.idx,A.r,A.eL,pL]
    exact J _ _ (by simp(maxDischargeDepth:=12) [tP, *]) (f _ (.inr rfl) rfl (by simp[an])) C
   ·rw[kE]at z
    subst z
    have l6:(H.get ⟨0,29,L,0⟩).isSome=true:=by rw[o];rfl
    have X:ky 2 32 e.length true none (some ⟨2,an e,true,false⟩) (some [.agg [aI q,.cE 1 (cR b) none]]):=by
     simp;omega
    have f:=λH'=>i 29 (H.gen 0 29) (e.length+1) H' (.inl rfl) rfl
    clear i R
    simp[ca, *,bc,c.r,c.idx,A.r,A.eL,pL]
    exact J _ _ (by simp(maxDischargeDepth:=12) [tP, *]) (f _ (by simp)) C
 | cons p s O=>
  intro k e F H P W R j Y E
  obtain⟨Ks,hg,M,G⟩:=drop_cons P
  have hp:=a p (by rw[<-hg];exact eE _)
  have e3:=IntWalk.i64_in ((k:Int)+1) (by omega)
  have x6:bq (an l) k 0 1 false=some (aI p.pos):=by simp[an,G,bK.enc]
  have Kn:bq (an l) k 0 2 true=some (.agg [aI p.pos,p.av]):=by simp[an,G,bK.enc]
  have Kp:=hp.r
  by_cases V:p.pos<q
  ·have u:uF (p :: s) q=p :: uF s q:=by simp[uF,V]
   have v:=λD H'=>O (k+1) (e++[p]) D H' M (by omega) (by simp;omega) (by rw[<-j,u];simp)
   rw[show((k+1:Nat):Int)=(k:Int)+1 from by omega]at v
   have i : ∀(B m:Nat)(H':aa),m=e.length+1->H'.get ⟨0,29,B,0⟩=some ⟨2,an e++[.agg [aI p.pos,p.av]],true,false⟩->lG [29] 2 (an (e++[p])) H' (.aD ⟨0,29,B,0⟩ 0 m none):=by
    intro B m H' S h
    subst S
    exact .inr ⟨29,B,by simp,by simp,by rw[h];simp[an,bK.enc]⟩
   clear N O a u j
   refine eZ _ _ _ _ _ _ _ λg=>?_
   rcases E with ⟨rfl,K⟩ | ⟨t,L,z,rfl,o⟩
   ·have w:e=[]:=by simpa [an] using K
    subst w
    have f:=i (H.gen 0 29) 1
    simp[ca, *,bc,c.r,c.idx,pL]
    exact v _ _ (by simp(maxDischargeDepth:=12) [tP, *]) (f _ rfl (by simp[an]))
   ·rw[kE]at z
    subst z
    have l6:(H.get ⟨0,29,L,0⟩).isSome=true:=by rw[o];rfl
    have X:ky 2 32 e.length true none (some ⟨2,an e,true,false⟩) (some [.agg [aI p.pos,p.av]]):=by
     simp;omega
    have f:=λH'=>i (H.gen 0 29) (e.length+1) H' rfl
    clear i R
    simp[ca, *,bc,c.r,c.idx,pL]
    exact v _ _ (by simp(maxDischargeDepth:=12) [tP, *]) (f _ (by simp))
  ·have u:uF (p :: s) q=uF s q:=by simp[uF,V]
   have v:=O (k+1) e F H M (by omega) (by omega) (by rw[<-j,u]) Y E
   rw[show((k+1:Nat):Int)=(k:Int)+1 from by omega]at v
   clear N O a u j E
   refine eZ _ _ _ _ _ _ _ λg=>?_
   simp[ca, *,bc,c.r,c.idx]
   done
theorem GD{i:AV}{b:List UInt8}(m:Sl 1 (cR b) i)(f:b.length<1000000000):aN env 138 [x,aI q,i]=some (.cE 2 (an (fA l q b)) none):=by
 refine fK rfl (by kernel_rfl) (lZ _ _ _ _ _ λg=>?_)
 have h:=yJ c a d m f (q:=q) (Q:=λy H'=>view H'.get 8 y=some (.cE 2 (an (fA l q b)) none)) (λy H' j=>by
  rcases j with ⟨rfl,k⟩ | ⟨t,o,n,rfl,e⟩
  ·simp[an,fA]at k
  ·rw[pI]at *
   simp[e]) l 0 [] bt [] rfl (by omega) (by simp) (by simp) Fr.nil (.inl ⟨rfl,rfl⟩)
 rw[show((0:Nat):Int)=0 from rfl]at h
 generalize an (fA l q b)=W at *
 simp[ca, *,iQ]
 first | done | exact h
end
end
section
attribute [local simp] cC bV bn bW bm kp cI bY bX eQ eP aO ej
section
variable{l:List bK}{x j:AV}{st lf:Int}{dd:Bool}{b:List UInt8}(d:Sl 2 (an l) x)(c : ∀s∈l,dy s)(k:l.length<500000)(i:Sl 1 (cR b) j)(f:b.length<1000000000)
include d c k i f
theorem tu{q:Int}(a:dd=true\/lf=0):aN env 106 [a6 x st lf dd,aI q,j]=some (a6 x st lf true):=by
 refine fK rfl (by kernel_rfl) (gA _ _ _ _ _ λg=>?_)
 simp only[a6]
 rcases a with rfl | rfl
 ·simp[ca, *,cD,d.r]
 ·cases dd<;>simp[ca, *,cD,d.r]
theorem wW{q:Int}(h : ¬lf=0)(o : -1<=lf/\lf<2147483648):aN env 106 [a6 x st lf false,aI q,j]=some (a6 (.cE 2 (an (fA l q b)) none) st (if lf>0 then lf - 1 else lf) false):=by
 refine fK rfl (by kernel_rfl) (gA _ _ _ _ _ λg=>?_)
 have n:=GD (q:=q) d c (by omega) i f
 have m:=i.r
 have p:=IntWalk.i64_in (lf - 1) (by omega)
 generalize an (fA l q b)=W at *
 simp only[a6]
 clear c
 by_cases a:lf>0
 ·have e:0<lf:=a
  rw[if_pos a]
  simp[ca, *,cD,d.r]
 ·have e : ¬0<lf:=a
  rw[if_neg a]
  simp[ca, *,cD,d.r]
theorem wX{q:Int}(h : ¬(mr l st lf dd=true/\(0<=q/\q<6146)/\b.length=128)):aN env 65 [a6 x st lf dd,aI q,j]=some (
 .tup [jP,aI (if mr l st lf dd then 2 else 8)]):=by
 refine fK rfl (by kernel_rfl) (fu _ _ _ _ _ λg=>?_)
 have a:=pX (st:=st) (lf:=lf) (dd:=dd) d c (by omega)
 have n:=i.r
 cases m:mr l st lf dd
 ·rw[m]at a
  simp only[a6,jP]at a ⊢
  simp[ca, *,bH,d.r]
 ·rw[m]at a h
  simp only[a6,jP]at a ⊢
  clear c m
  by_cases o:q<0
  ·clear h
   simp[ca, *,bH,d.r]
  ·by_cases p:6146<=q
   ·clear h
    simp[ca, *,bH,d.r]
   ·have t : ¬b.length=128:=λe=>h ⟨rfl,by omega,e⟩
    have u : ¬(b.length:Int)=128:=by omega
    clear h
    simp[ca, *,bH,d.r]
theorem Er(q:Int) : ∀s∈fA l q b,dy s:=by
 intro s a
 unfold fA at a
 rcases fc.1 a with h | h
 ·exact c s (oh.1 h).1
 ·rcases dg.1 h with rfl | h
  ·exact eT _ _
  ·exact c s (oh.1 h).1
theorem vu{q:Int}(e:mr l st lf dd=true)(v:0<=q/\q<6146)(h:b.length=128)(a:dd=true\/lf=0):aN env 65 [a6 x st lf dd,aI q,j]=some (
 .tup [a6 (jG 2 (an (gq l))) st lf true,aI 0]):=by
 refine fK rfl (by kernel_rfl) (fu _ _ _ _ _ λg=>?_)
 have m:=pX (st:=st) (lf:=lf) (dd:=dd) d c (by omega)
 rw[e]at m
 have n:=tu (st:=st) (lf:=lf) (dd:=dd) (q:=q) d c k i f a
 have u:=qV (st:=st) (lf:=lf) (dd:=true) d c (by omega) (λs o=>by have:=lD l (-1) (iC e) s o;omega)
 have p:=i.r
 have t:=(eT 2 (an (gq l))).r
 generalize jG 2 (an (gq l))=W at *
 have y : ¬q<0:=by omega
 have w : ¬6146<=q:=by omega
 simp only[a6]at m n u ⊢
 clear c e a
 simp[ca, *,bH,d.r]
theorem yX{q:Int}(a:mr l st lf false=true)(C:0<=q/\q<6146)(o:b.length=128)(e : ¬lf=0):aN env 65 [a6 x st lf false,aI q,j]=some (
 .tup [a6 (jG 2 (an (gq (fA l q b)))) st (if lf>0 then lf - 1 else lf) false,aI 0]):=by
 refine fK rfl (by kernel_rfl) (fu _ _ _ _ _ λg=>?_)
 have p:=pX (st:=st) (lf:=lf) (dd:=false) d c (by omega)
 rw[a]at p
 have m : -1<=lf/\lf<2147483648:=by
  unfold mr tH at a
  simp at a
  omega
 have u:=wW (st:=st) (q:=q) d c k i f e m
 have y:=qV (st:=st) (lf:=if lf>0 then lf - 1 else lf) (dd:=false) (Sl.mk 2 (an (fA l q b))) (Er d c k i f q) (by
  unfold fA
  have A:=uZ (λs:bK=>decide (s.pos<q)) l
  have B:=uZ (λs:bK=>decide (q<s.pos)) l
  simp only[iU,kC,uF,sR]
  omega) (λs n=>by
   unfold fA at n
   have t:=lD l (-1) (iC a)
   rcases fc.1 n with h | h
   ·have:=t s (oh.1 h).1;omega
   ·rcases dg.1 h with rfl | h
    ·show b.length<_;omega
    ·have:=t s (oh.1 h).1;omega)
 have v:=i.r
 have w:=(eT 2 (an (gq (fA l q b)))).r
 generalize jG 2 (an (gq (fA l q b)))=W at *
 generalize an (fA l q b)=W2 at *
 generalize (if lf>0 then lf - 1 else lf)=lf' at *
 have z : ¬q<0:=by omega
 have D : ¬6146<=q:=by omega
 simp only[a6]at p u y ⊢
 clear c a
 simp[ca, *,bH,d.r]
end
theorem Di(q:Int)(b:List UInt8) : ∀(l:List bK)(a:Int),dV a l=true->bP (Cc q b l)=bP (fA l q b):=by
 have g : ∀(l:List bK)(a:Int),dV a l=true->q<=a->uF l q=[]/\sR l q=l:=by
  intro l a h A
  have m:=zP l a h
  constructor
  ·unfold uF
   rw[List.filter_eq_nil_iff]
   intro s v
   have:=m s v
   simp;omega
  ·unfold sR
   rw[List.filter_eq_self]
   intro s v
   have:=m s v
   simp;omega
 intro l
 induction l with
 | nil=>intro a _;rfl
 | cons p l z=>
  intro a h
  have w:dV p.pos l=true:=by simp[dV]at h;exact h.2
  unfold Cc
  by_cases o:p.pos<q
  ·rw[if_pos o]
   have u:uF (p :: l) q=p :: uF l q:=by simp[uF,o]
   have n:sR (p :: l) q=sR l q:=by unfold sR;rw[yA (by simp;omega)]
   have:=z p.pos w
   unfold fA at this ⊢
   rw[u,n]
   simp only[bP,o5,List.cons_append]at this ⊢
   rw[this]
   rfl
  ·rw[if_neg o]
   obtain⟨y,t⟩:=g l p.pos w (by omega)
   have u:uF (p :: l) q=[]:=by unfold uF at y ⊢;rw[yA (by simpa using o)];exact y
   by_cases e:p.pos=q
   ·rw[if_pos e]
    have n:sR (p :: l) q=l:=by unfold sR at t ⊢;rw[yA (by simp;omega)];exact t
    unfold fA
    rw[u,n]
    simp[bP,kg,AW,np,Ej]
   ·rw[if_neg e]
    have n:sR (p :: l) q=p :: l:=by unfold sR at t ⊢;rw[List.filter_cons_of_pos (by simp;omega),t]
    unfold fA
    rw[u,n]
    simp[bP,kg,AW,np,Ej]
theorem Jt(q:Int) : ∀(l:List bK)(a:Int),dV a l=true->BN l q=CG l q:=by
 have o : ∀(l:List bK)(a:Int),dV a l=true->q<=a->BN l q=En:=by
  intro l
  induction l with
  | nil=>intro a _ _;rfl
  | cons p l m=>
   intro a h t
   have g:dV p.pos l=true:=by simp[dV]at h;exact h.2
   have hp:=zP (p :: l) a h p (by simp)
   show(if p.pos=q then p.bs else BN l q)=En
   rw[if_neg (by omega)]
   exact m p.pos g (by omega)
 intro l
 induction l with
 | nil=>intro a _;rfl
 | cons p l m=>
  intro a h
  have g:dV p.pos l=true:=by simp[dV]at h;exact h.2
  show(if p.pos=q then p.bs else BN l q)=(if p.pos<q then CG l q else if p.pos=q then p.bs else En)
  by_cases n:p.pos<q
  ·rw[if_neg (by omega),if_pos n]
   exact m p.pos g
  ·rw[if_neg n]
   by_cases e:p.pos=q
   ·rw[if_pos e,if_pos e]
   ·rw[if_neg e,if_neg e]
    exact o l p.pos g (by omega)
end
section
noncomputable def oI:Code:=(Try.f102.body).getD .skip
def tE:Nat->Option (List Nat):=λi=>none
def tI:Nat->Bool:=λi=>false
def oK(g:Nat->AV)(b:AV)(H:aa)(Q:AV->aa->Prop):Prop:=
 lQ H 5 98 b λc=>
 ga (gx H (Ref.mk 0 6 (aa.gen H 0 6) 0) (oz env.P (Ref.mk 0 6 (aa.gen H 0 6) 0) 98 (some c) (some c))) λa e=>
 tM e 98 a b λf d=>
 Q a d
theorem tq(a:AV)(H:aa)(Q:AV->aa->Prop)(h : ∀g,oK g a H Q):gm ar Try.f102 0 [.code oI] [(0,a)] H Q:=⟨λg=>jR (live:=tE) (cut:=tI) (n:=500) (Eq.mp (by kernel_rfl) (h g))⟩
noncomputable def aE:Code:=(Try.f108.body).getD .skip
def de:Nat->Option (List Nat):=λi=>none
def df:Nat->Bool:=λi=>false
def aF(dep:Nat)(g:Nat->AV)(a:AV)(H:aa)(Q:AV->aa->Prop):Prop:=
 FD 91 3 a λe=>
 br (some e) (
  Q (.v (.slice none 0 0)) H) (
  ga (oH env.P false true H (⟨(dep+1),5,aa.gen H (dep+1) 5,0⟩:Ref) 91 0 (some [])) λc f=>
  zZ f dep 7 91 91 c a λd b=>
  Q d b)
theorem bw(dep:Nat)(a:AV)(H:aa)(Q:AV->aa->Prop)(h : ∀g,aF dep g a H Q):gm ar Try.f108 (dep+1) [.code aE] [(0,a)] H Q:=⟨λg=>jR (live:=de) (cut:=df) (n:=500) (Eq.mp (by kernel_rfl) (h g))⟩
noncomputable def nE:Code:=(Try.f67.body).getD .skip
noncomputable def fL:=Aw Try.f67 3
def nr:Nat->Option (List Nat):=λi=>cond (Nat.beq i 3) (some [10,3,2,1,9]) (none)
def nB:Nat->Bool:=λi=>false
def jo(g:Nat->AV)(i:AV)(H:aa)(Q:AV->aa->Prop):Prop:=
 jN H 1 93 i λd j=>
 lR j 2 93 λf a=>
 bE 93 d 0 λh=>
 aH a 91 h λe=>
 ga (aL ar true (aN ar) (cB ar 0) a (Ref.mk 0 7 (aa.gen a 0 7) 0) (some (.fn (.func 108) [] [])) [e]) λc b=>
 lQ b 9 91 c λk=>
 gm ar Try.f67 0 fL [(10,(.v (.int .i64 0))),(3,c),(2,f),(1,d),(9,k)] b Q
theorem rR(a:AV)(H:aa)(Q:AV->aa->Prop)(h : ∀g,jo g a H Q):gm ar Try.f67 0 [.code nE] [(0,a)] H Q:=⟨λg=>jR (live:=nr) (cut:=nB) (n:=500) (Eq.mp (by kernel_rfl) (h g))⟩
def fQ(g:Nat->AV)(a d i h m:AV)(H:aa)(Q:AV->aa->Prop):Prop:=
 jO 3 10 9 a m λp=>
 br (some p) (
  iS H 91 d a λf=>
  bE 146 f 1 λk=>
  aH H 98 k λe=>
  FF H 20 e λl b=>
  iS b 91 d a λj=>
  bE 146 j 1 λn=>
  dD b 98 n l λq c=>
  mz 3 10 1 a λo=>
  gm ar Try.f67 0 fL [(10,o),(3,d),(2,i),(1,h),(9,m)] c Q) (
  bE 93 h 0 λf=>
  dD H 91 f d λk b=>
  aH b 93 h λe=>
  dD b 93 i e λl c=>
  fT c i 93 λj=>
  Q j c)
theorem gS(a e d b c:AV)(H:aa)(Q:AV->aa->Prop)(h : ∀g,fQ g a e d b c H Q):gm ar Try.f67 0 fL [(10,a),(3,e),(2,d),(1,b),(9,c)] H Q:=nw λg=>jR (live:=nr) (cut:=nB) (n:=500) (Eq.mp (by kernel_rfl) (h g))
noncomputable def m8:Code:=(Try.f54.body).getD .skip
def qL:Nat->Option (List Nat):=λi=>none
def qP:Nat->Bool:=λi=>false
def gl(g:Nat->AV)(F z:AV)(H:aa)(Q:AV->aa->Prop):Prop:=
 jN H 2 93 F λb M=>
 lR M 4 93 λc m=>
 aH m 93 b λJ=>
 ga (aL ar true (aN ar) (cB ar 0) m (Ref.mk 0 8 (aa.gen m 0 8) 0) (some (.fn (.func 60) [] [])) [J]) λC h=>
 wj 35 9 0 C λR=>
 br (some R) (
  oa 93 λi=>
  dD h 93 c i λD a=>
  fT a c 93 λu=>
  Q (.tup [u,C]) a) (
  FC 3 14 z λi=>
  gQ i false (eI z) λD=>
  gQ i false (o3 3 17 2147483648 D) λu=>
  ij i u λK=>
  br (some K) (
   oa 93 λf=>
   dD h 93 c f λl a=>
   fT a c 93 λe=>
   Q (.tup [e,(.v (.int .i64 2))]) a) (
   bE 93 b 1 λf=>
   aH h 3 f λl=>
   mz 3 23 1 l λe=>
   FK 3 24 2147483648 e λx=>
   br (some x) (
    oa 93 λd=>
    dD h 93 c d λk a=>
    fT a c 93 λj=>
    Q (.tup [j,(.v (.int .i64 9))]) a) (
    aH h 93 b λd=>
    B5 h 28 d λk a=>
    dD a 93 b k λj A=>
    bE 93 b 1 λt=>
    aH A 3 t λo=>
    mz 3 30 1 o λq=>
    bE 93 b 1 λs=>
    dD A 3 s q λI G=>
    bE 93 b 2 λw=>
    dD G 3 w z λE O=>
    bE 93 b 3 λn=>
    ga (eB env.P O 4 (some n) (some (AV.v (Value.bool false)))) λN B=>
    aH B 93 b λy=>
    dD B 93 c y λL H9=>
    fT H9 c 93 λp=>
    Q (.tup [p,(.v (.int .i64 0))]) H9)))
theorem qG(a b:AV)(H:aa)(Q:AV->aa->Prop)(h : ∀g,gl g a b H Q):gm ar Try.f54 0 [.code m8] [(0,a),(1,b)] H Q:=⟨λg=>jR (live:=qL) (cut:=qP) (n:=500) (Eq.mp (by kernel_rfl) (h g))⟩
noncomputable def iD:Code:=(Try.f55.body).getD .skip
def qK:Nat->Option (List Nat):=λi=>none
def qO:Nat->Bool:=λi=>false
def fb(g:Nat->AV)(x0 S O:AV)(H:aa)(Q:AV->aa->Prop):Prop:=
 jN H 3 93 x0 λa H1=>
 lR H1 6 93 λe H2=>
 aH H2 93 a λv3=>
 FG H2 13 v3 S λv4 T=>
 wj 35 14 0 v4 λv5=>
 br (some v5) (
  oa 93 λV=>
  dD T 93 e V λv7 J=>
  fT J e 93 λU=>
  Q (.tup [U,v4]) J) (
  lQ T 19 98 O λV=>
  wj 3 19 128 V λv7=>
  br (some v7) (
   oa 93 λU=>
   dD T 93 e U λv9 J=>
   fT J e 93 λR=>
   Q (.tup [R,(.v (.int .i64 2))]) J) (
   aH T 93 a λU=>
   B5 T 23 U λv9 J=>
   dD J 93 a v9 λR C=>
   bE 93 a 3 λKp=>
   aH C 4 Kp λy=>
   gQ y false (dX 93 a 2) λKn=>
   gQ y false (cb C 3 Kn) λX=>
   gQ y false (z4 3 29 0 X) λY=>
   ij y Y λW=>
   br (some W) (
    bE 93 a 3 λI=>
    ga (eB env.P C 4 (some I) (some (AV.v (Value.bool true)))) λL w=>
    aH w 93 a λG=>
    dD w 93 e G λB l=>
    fT l e 93 λf=>
    Q (.tup [f,(.v (.int .i64 0))]) l) (
    bE 93 a 2 λI=>
    aH C 3 I λL=>
    Ca 3 36 0 L λG=>
    br (some G) (
     bE 93 a 2 λB=>
     aH C 3 B λf=>
     FJ 3 39 1 f λq=>
     bE 93 a 2 λE=>
     dD C 3 E q λK w=>
     aH w 93 a λt=>
     B7 w 45 t S λi l=>
     iJ i 0 λd=>
     iJ i 1 λm=>
     o2 m λo=>
     br (some o) (
      bE 93 a 0 λh=>
      aH l 91 h λk=>
      fB (iG env.P 146 (some [(0,S)])) λj=>
      wi l 55 91 1 0 j λc x=>
      FH x 56 k d c λs H9=>
      bE 93 a 0 λz=>
      dD H9 91 z s λA b=>
      bE 93 a 0 λF=>
      aH b 91 F λu=>
      z5 b 62 O λM p=>
      iS p 91 u d λD=>
      bE 146 D 1 λx6=>
      dD p 98 x6 M λKq n=>
      aH n 93 a λZ=>
      dD n 93 e Z λKr N=>
      fT N e 93 λKo=>
      Q (.tup [Ko,(.v (.int .i64 0))]) N) (
      bE 93 a 0 λh=>
      aH l 91 h λk=>
      z5 l 62 O λj x=>
      iS x 91 k d λc=>
      bE 146 c 1 λs=>
      dD x 98 s j λz H9=>
      aH H9 93 a λA=>
      dD H9 93 e A λF b=>
      fT b e 93 λu=>
      Q (.tup [u,(.v (.int .i64 0))]) b)) (
     aH C 93 a λB=>
     B7 C 45 B S λf w=>
     iJ f 0 λq=>
     iJ f 1 λE=>
     o2 E λK=>
     br (some K) (
      bE 93 a 0 λt=>
      aH w 91 t λi=>
      fB (iG env.P 146 (some [(0,S)])) λd=>
      wi w 55 91 1 0 d λm l=>
      FH l 56 i q m λo x=>
      bE 93 a 0 λh=>
      dD x 91 h o λk H9=>
      bE 93 a 0 λj=>
      aH H9 91 j λc=>
      z5 H9 62 O λs b=>
      iS b 91 c q λz=>
      bE 146 z 1 λA=>
      dD b 98 A s λF p=>
      aH p 93 a λu=>
      dD p 93 e u λM n=>
      fT n e 93 λD=>
      Q (.tup [D,(.v (.int .i64 0))]) n) (
      bE 93 a 0 λt=>
      aH w 91 t λi=>
      z5 w 62 O λd l=>
      iS l 91 i q λm=>
      bE 146 m 1 λo=>
      dD l 98 o d λh x=>
      aH x 93 a λk=>
      dD x 93 e k λj H9=>
      fT H9 e 93 λc=>
      Q (.tup [c,(.v (.int .i64 0))]) H9)))))
theorem j6(a b c:AV)(H:aa)(Q:AV->aa->Prop)(h : ∀g,fb g a b c H Q):gm ar Try.f55 0 [.code iD] [(0,a),(1,b),(2,c)] H Q:=⟨λg=>jR (live:=qK) (cut:=qO) (n:=500) (Eq.mp (by kernel_rfl) (h g))⟩
noncomputable def nF:Code:=(Try.f58.body).getD .skip
def sK:Nat->Option (List Nat):=λi=>none
def sY:Nat->Bool:=λi=>false
def gO(g:Nat->AV)(q n:AV)(H:aa)(Q:AV->aa->Prop):Prop:=
 jN H 2 93 q λk o=>
 aH o 93 k λt=>
 FG o 11 t n λm c=>
 wj 35 12 0 m λs=>
 br (some s) (
  Q (.tup [(.v (.slice none 0 0)),m]) c) (
  aH c 93 k λw=>
  B7 c 18 w n λl b=>
  iJ l 0 λx=>
  iJ l 1 λp=>
  o2 p λu=>
  br (some u) (
   FM b 23 98 128 λa f=>
   Q (.tup [a,(.v (.int .i64 0))]) f) (
   bE 93 k 0 λa=>
   aH b 91 a λj=>
   iS b 91 j x λi=>
   bE 146 i 1 λe=>
   aH b 98 e λd=>
   FF b 30 d λh f=>
   Q (.tup [h,(.v (.int .i64 0))]) f))
theorem rS(a b:AV)(H:aa)(Q:AV->aa->Prop)(h : ∀g,gO g a b H Q):gm ar Try.f58 0 [.code nF] [(0,a),(1,b)] H Q:=⟨λg=>jR (live:=sK) (cut:=sY) (n:=500) (Eq.mp (by kernel_rfl) (h g))⟩
noncomputable def gK:Code:=(Try.f71.body).getD .skip
noncomputable def cd:=Aw Try.f71 2
noncomputable def cP:=Aw Try.f71 5
def eJ:Nat->Option (List Nat):=λi=>cond (Nat.beq i 2) (some [2,1]) (cond (Nat.beq i 5) (some [3,2,1]) (none))
def eN:Nat->Bool:=λi=>false
def gP(dep:Nat)(g:Nat->AV)(a:AV)(H:aa)(Q:AV->aa->Prop):Prop:=
 ga (gx H (⟨(dep+1),1,aa.gen H (dep+1) 1,0⟩:Ref) (tz env.P (⟨(dep+1),1,aa.gen H (dep+1) 1,0⟩:Ref) 93 (some a))) λb c=>
 gm ar Try.f71 (dep+1) cd [(2,(.v (.int .i64 0))),(1,b)] c Q
theorem kJ(dep:Nat)(a:AV)(H:aa)(Q:AV->aa->Prop)(h : ∀g,gP dep g a H Q):gm ar Try.f71 (dep+1) [.code gK] [(0,a)] H Q:=⟨λg=>jR (live:=eJ) (cut:=eN) (n:=500) (Eq.mp (by kernel_rfl) (h g))⟩
def ei(dep:Nat)(g:Nat->AV)(b a:AV)(H:aa)(Q:AV->aa->Prop):Prop:=
 bE 93 a 0 λf=>
 aH H 91 f λd=>
 z3 H dep 7 91 d λe=>
 jO 3 4 7 b e λc=>
 br (some c) (
  gm ar Try.f71 (dep+1) cP [(3,(.v (.int .i64 0))),(2,b),(1,a)] H Q) (
  Q (.v (.tuple #[])) H)
theorem gh(dep:Nat)(b a:AV)(H:aa)(Q:AV->aa->Prop)(h : ∀g,ei dep g b a H Q):gm ar Try.f71 (dep+1) cd [(2,b),(1,a)] H Q:=nw λg=>jR (live:=eJ) (cut:=eN) (n:=500) (Eq.mp (by kernel_rfl) (h g))
def eg(dep:Nat)(g:Nat->AV)(c a b:AV)(H:aa)(Q:AV->aa->Prop):Prop:=
 bE 93 b 0 λw=>
 aH H 91 w λt=>
 iS H 91 t a λu=>
 bE 146 u 1 λA=>
 aH H 98 A λB=>
 z3 H dep 18 98 B λy=>
 jO 3 11 18 c y λC=>
 br (some C) (
  bE 93 b 0 λk=>
  aH H 91 k λv=>
  iS H 91 v a λq=>
  bE 146 q 1 λs=>
  aH H 98 s λp=>
  bE 93 b 0 λn=>
  aH H 91 n λm=>
  iS H 91 m a λo=>
  bE 146 o 1 λl=>
  aH H 98 l λj=>
  iS H 98 j c λe=>
  aH H 5 e λh=>
  fB (cK env.P .add 5 (Operand.tmp 37) (.const (.int .u8 1)) (some h) (some (a8 1))) λi=>
  iS H 98 p c λf=>
  dD H 5 f i λz x=>
  mz 3 20 1 c λd=>
  gm ar Try.f71 (dep+1) cP [(3,d),(2,a),(1,b)] x Q) (
  mz 3 9 1 a λk=>
  gm ar Try.f71 (dep+1) cd [(2,k),(1,b)] H Q)
theorem gf(dep:Nat)(c b a:AV)(H:aa)(Q:AV->aa->Prop)(h : ∀g,eg dep g c b a H Q):gm ar Try.f71 (dep+1) cP [(3,c),(2,b),(1,a)] H Q:=nw λg=>jR (live:=eJ) (cut:=eN) (n:=500) (Eq.mp (by kernel_rfl) (h g))
noncomputable def bN:Code:=(Try.f14.body).getD .skip
noncomputable def cg:=Aw Try.f14 18
def fJ:Nat->Option (List Nat):=λi=>cond (Nat.beq i 18) (some [28,21,3,12,5,11,27,26]) (none)
def fO:Nat->Bool:=λi=>false
def bO(g:Nat->AV)(x0 x1 x2 x3 x4:AV)(H:aa)(Q:AV->aa->Prop):Prop:=
 jN H 5 93 x0 λf H1=>
 jN H1 6 93 x1 λv2 H2=>
 aH H2 93 f λv3=>
 ga (aL ar true (aN ar) (cB ar 0) H2 (Ref.mk 0 30 (aa.gen H2 0 30) 0) (some (.fn (.func 61) [] [])) [v3]) λv4 H3=>
 gQ v4 false (cb H3 93 v2) λv5=>
 gW v4 false H3 (aL ar true (aN ar) (cB ar 0) H3 (Ref.mk 0 33 (aa.gen H3 0 33) 0) (some (.fn (.func 61) [] [])) [v5]) λv6 Z=>
 ij v4 v6 λv7=>
 gQ v7 false (eI x3) λv8=>
 gQ v7 false (zY Z 37 98 v8) λv9=>
 gQ v7 false (B8 3 37 10000 v9) λLd=>
 ij v7 Ld λK0=>
 br (some K0) (
  Q (.v (.bool true)) Z) (
  aH Z 93 f λKG=>
  ga (aL ar true (aN ar) (cB ar 0) Z (Ref.mk 0 41 (aa.gen Z 0 41) 0) (some (.fn (.func 63) [] [])) [KG]) λLv H5=>
  lR H5 11 93 λa H6=>
  dD H6 93 a Lv λLG H7=>
  B3 H7 43 98 98 x3 λR H8=>
  aH H8 93 a λKN=>
  ga (aL ar true (aN ar) (cB ar 0) H8 (Ref.mk 0 47 (aa.gen H8 0 47) 0) (some (.fn (.func 54) [] [])) [KN,x4]) λO H9=>
  iJ O 0 λLm=>
  iJ O 1 λKL=>
  lR H9 13 93 λy Lw=>
  dD Lw 93 y Lm λLD z=>
  aH z 93 f λKq=>
  ga (aL ar true (aN ar) (cB ar 0) z (Ref.mk 0 53 (aa.gen z 0 53) 0) (some (.fn (.func 64) [] [])) [Kq,x4]) λN Ks=>
  iJ N 0 λLt=>
  iJ N 1 λKC=>
  lR Ks 15 93 λY K9=>
  dD K9 93 Y Lt λLC C=>
  aH C 93 a λKz=>
  ga (aL ar true (aN ar) (cB ar 0) C (Ref.mk 0 60 (aa.gen C 0 60) 0) (some (.fn (.func 55) [] [])) [Kz,x2,R]) λP Lo=>
  iJ P 0 λLy=>
  iJ P 1 λLq=>
  lR Lo 17 93 λB Lc=>
  dD Lc 93 B Ly λLI u=>
  aH u 93 f λLg=>
  ga (aL ar true (aN ar) (cB ar 0) u (Ref.mk 0 67 (aa.gen u 0 67) 0) (some (.fn (.func 65) [] [])) [Lg,x2,x3]) λU KT=>
  iJ U 0 λKA=>
  iJ U 1 λKV=>
  lR KT 19 93 λG KM=>
  dD KM 93 G KA λLF x=>
  aH x 93 a λKS=>
  ga (aL ar true (aN ar) (cB ar 0) x (Ref.mk 0 73 (aa.gen x 0 73) 0) (some (.fn (.func 58) [] [])) [KS,x2]) λE D=>
  iJ E 0 λL=>
  iJ E 1 λK5=>
  aH D 93 f λLx=>
  ga (aL ar true (aN ar) (cB ar 0) D (Ref.mk 0 79 (aa.gen D 0 79) 0) (some (.fn (.func 66) [] [])) [Lx,x2]) λK S=>
  iJ K 0 λK2=>
  iJ K 1 λLu=>
  aH S 93 a λKP=>
  B5 S 83 KP λKE Lf=>
  lR Lf 25 93 λw K7=>
  dD K7 93 w KE λLH A=>
  aH A 93 y λKJ=>
  aH A 93 Y λLs=>
  FI A 86 KJ Ls λl p=>
  gQ l true (eI KL) λKt=>
  gQ l true (eI KC) λK4=>
  gQ l true (mX 3 88 89 Kt K4) λLk=>
  kn l Lk λt=>
  gQ t true (cb p 93 B) λLh=>
  gQ t true (cb p 93 G) λLp=>
  gW t true p (B4 p 95 Lh Lp) λKr c=>
  kn t Kr λm=>
  gQ m true (eI Lq) λKK=>
  gQ m true (eI KV) λKW=>
  gQ m true (mX 3 98 99 KK KW) λKU=>
  kn m KU λe=>
  gQ e true (eI L) λKH=>
  gQ e true (tN c 104 98 9 KH) λLi=>
  gQ e true (eI K2) λK3=>
  gQ e true (tN c 106 98 9 K3) λKD=>
  gQ e true (mX 9 104 106 Li KD) λKO=>
  kn e KO λo=>
  gQ o true (eI K5) λKB=>
  gQ o true (eI Lu) λK6=>
  gQ o true (mX 3 110 111 KB K6) λKu=>
  kn o Ku λd=>
  gQ d true (cb c 93 a) λKI=>
  gW d true c (aL ar false (aN ar) (cB ar 0) c (Ref.mk 0 116 (aa.gen c 0 116) 0) (some (.fn (.func 60) [] [])) [KI]) λKx k=>
  gQ d true (cb k 93 f) λKQ=>
  gW d true k (aL ar false (aN ar) (cB ar 0) k (Ref.mk 0 118 (aa.gen k 0 118) 0) (some (.fn (.func 68) [] [])) [KQ]) λKv M=>
  gQ d true (mX 3 116 118 Kx Kv) λKY=>
  kn d KY λKy=>
  ga (aL ar false (aN ar) (cB ar 0) M (Ref.mk 0 121 (aa.gen M 0 121) 0) (some (.fn (.func 56) [] [])) []) λLe X=>
  ga (aL ar false (aN ar) (cB ar 0) X (Ref.mk 0 122 (aa.gen X 0 122) 0) (some (.fn (.func 69) [] [])) []) λK8 KR=>
  FI KR 123 Le K8 λb n=>
  gQ b true (cb n 93 a) λK1=>
  gQ b true (cb n 93 v2) λLa=>
  gW b true n (FE n 127 K1 La) λKX h=>
  gQ b true (cb h 93 f) λLn=>
  gQ b true (cb h 93 v2) λKp=>
  gW b true h (B4 h 130 Ln Kp) λKw s=>
  gQ b true (mX 4 127 130 KX Kw) λLj=>
  kn b Lj λi=>
  gQ i true (cb s 93 a) λLl=>
  gQ i true (cb s 93 f) λKF=>
  gW i true s (FE s 136 Ll KF) λLr j=>
  kn i Lr λq=>
  gQ q true (cb j 93 w) λLb=>
  gQ q true (cb j 93 f) λKo=>
  gW q true j (B4 j 141 Lb Ko) λI J=>
  kn q I λF=>
  aH J 93 y λW=>
  B6 J 144 W λLz x6=>
  aH x6 93 B λT=>
  B6 x6 146 T λLB V=>
  aH V 93 w λKn=>
  B6 V 148 Kn λLA KZ=>
  gm ar Try.f14 0 cg [(28,(.v (.int .i64 0))),(21,L),(3,x3),(12,R),(5,f),(11,a),(27,F),(26,Ky)] KZ Q)
theorem cF(a b d e c:AV)(H:aa)(Q:AV->aa->Prop)(h : ∀g,bO g a b d e c H Q):gm ar Try.f14 0 [.code bN] [(0,a),(1,b),(2,d),(3,e),(4,c)] H Q:=⟨λg=>jR (live:=fJ) (cut:=fO) (n:=500) (Eq.mp (by kernel_rfl) (h g))⟩
def aW(g:Nat->AV)(b a v i t j f d:AV)(H:aa)(Q:AV->aa->Prop):Prop:=
 lQ H 151 98 a λy=>
 jO 3 149 151 b y λw=>
 br (some w) (
  iS H 98 a b λk=>
  aH H 5 k λe=>
  fB (cK env.P .add 5 (Operand.tmp 160) (.const (.int .u8 1)) (some e) (some (a8 1))) λq=>
  iS H 98 a b λl=>
  dD H 5 l q λu h=>
  mz 3 153 1 b λc=>
  gm ar Try.f14 0 cg [(28,c),(21,a),(3,v),(12,i),(5,t),(11,j),(27,f),(26,d)] h Q) (
  gQ d true (eI f) λk=>
  kn d k λe=>
  gQ e true (cb H 93 j) λq=>
  gQ e true (cb H 93 t) λl=>
  gW e true H (aL ar true (aN ar) (cB ar 0) H (Ref.mk 0 170 (aa.gen H 0 170) 0) (some (.fn (.func 62) [] [])) [q,l]) λu h=>
  kn e u λc=>
  gQ c true (eI i) λx=>
  gQ c true (tN h 174 98 9 x) λp=>
  gQ c true (eI v) λs=>
  gQ c true (tN h 176 98 9 s) λo=>
  gQ c true (mX 9 174 176 p o) λn=>
  kn c n λm=>
  Q m h)
theorem eX(a c j b i d f e:AV)(H:aa)(Q:AV->aa->Prop)(h : ∀g,aW g a c j b i d f e H Q):gm ar Try.f14 0 cg [(28,a),(21,c),(3,j),(12,b),(5,i),(11,d),(27,f),(26,e)] H Q:=nw λg=>jR (live:=fJ) (cut:=fO) (n:=500) (Eq.mp (by kernel_rfl) (h g))
end
section
attribute [local simp] cC bV bn bW iv kM bm kp cI bY bX eQ eP aO ej
theorem DK{x:AV}{l:List UInt8}(j:Sl 1 (cR l) x)(v:l.length<1000000000):aN ar 102 [x]=some (.fsl 1 (cR l) none):=by
 refine iA (fn:=Try.f102) (c:=oI) rfl (by kernel_rfl) (by kernel_rfl) (by kernel_rfl) (by kernel_rfl) ?_;refine tq _ _ _ λg=>?_
 have w:=j.r
 have f:=so (P:=env.P) (t:=98) (z:=1) (by':=1) (zz:=a8 0) (r:=⟨0,6,0,0⟩) (by kernel_rfl) (by kernel_rfl) (n:=l.length) (by simp only[aO];omega) (by omega)
 have d:(cR l).length=l.length:=by simp
 have k : ∀(H:aa)(L:List AV),L.length=l.length->H.get ⟨0,6,0,0⟩=some ⟨1,L,true,false⟩->pd env.P H (some 98) (.aD ⟨0,6,0,0⟩ 0 l.length none) x=some (aI l.length,H.put ⟨0,6,0,0⟩ (some ⟨1,cR l,true,false⟩)):=by
  intro H L p o
  have q:(cR l).take l.length=cR l:=ej (by omega)
  have a:L.drop l.length=[]:=ot (by omega)
  have s:Nat.min (cR l).length l.length=l.length:=by rw[d];exact Nat.min_self _
  rcases j with ⟨rfl,m⟩ | ⟨c,rfl,m⟩
  ·have b:l=[]:=by
    apply tX.1
    rw[<-d,m];rfl
   subst b
   have h:L=[]:=tX.1 p
   subst h
   have i:gE bt=true:=rfl
   simp only[pd,i,if_true,cQ,o]
   simp
  ·have i:gE (.cE 1 (cR l) c)=false:=rfl
   have u:aV H.get (.cE 1 (cR l) c)=some (1,cR l):=rfl
   simp only[pd,i,u,cQ,o]
   simp[s,q,a,p,d]
 have e:=λH=>k H (List.replicate l.length (a8 0)) (by simp)
 clear k
 simp[ca, *,oK,v,f,e]
theorem xU(dep:Nat)(H:aa):cB ar dep (.fn 108) [bt] H=some (bt,H):=by
 obtain⟨b,a,d,rfl,rfl⟩ : ∃b a,cB ar dep (.fn 108) [bt] H=some (b,a)/\b=bt/\a=H:=by
  refine mh (fn:=Try.f108) (c:=aE) (by kernel_rfl) (by kernel_rfl) (by kernel_rfl) (by kernel_rfl) (by kernel_rfl) ?_ ?_
  ·refine bw _ _ _ _ λg=>?_
   simp[ca, *,aF,IX]
  ·rfl
 exact d
theorem xV(dep:Nat)(H:aa)(c:Option Nat):cB ar dep (.fn 108) [.cE 2 [] c] H=some (.aD ⟨dep+1,5,H.gen (dep+1) 5,0⟩ 0 0 (some 0),(⟨dep+1,5,H.gen (dep+1) 5,0⟩,some ⟨2,[],true,false⟩) :: H):=by
 obtain⟨b,a,d,rfl,rfl⟩ : ∃b a,cB ar dep (.fn 108) [.cE 2 [] c] H=some (b,a)/\b = .aD ⟨dep+1,5,H.gen (dep+1) 5,0⟩ 0 0 (some 0)/\a=(⟨dep+1,5,H.gen (dep+1) 5,0⟩,some ⟨2,[],true,false⟩) :: H:=by
  refine mh (fn:=Try.f108) (c:=aE) (by kernel_rfl) (by kernel_rfl) (by kernel_rfl) (by kernel_rfl) (by kernel_rfl) ?_ ?_
  ·refine bw _ _ _ _ λg=>?_
   simp[ca, *,aF]
  ·rfl
 exact d
theorem Fx{es:List AV}(a:es≠[])(b:es.length<1000000)(dep:Nat)(H:aa)(c:Option Nat):cB ar dep (.fn 108) [.cE 2 es c] H=some (.dsl (ic 7 H) 0 es.length none,DO 2 5 7 H es false):=by
 obtain⟨e,es,rfl⟩:=List.exists_cons_of_ne_nil a
 refine kq.2 ⟨0,λm _=>?_⟩
 have:ar.thrSpec 108 [.cE 2 (e :: es) c] H=some (.dsl (ic 7 H) 0 (es.length+1) none,DO 2 5 7 H (e :: es) false):=by
  show(if 108=101 then lC Try.prog 91 40 25 [.cE 2 (e :: es) c] H else if 108=108 then mq 2 32 5 7 [.cE 2 (e :: es) c] H else none)=_
  rw[if_neg (by decide),if_pos rfl]
  simp only[kC]at b
  exact if_pos ⟨rfl,by decide,by simp only[aO];omega⟩
 unfold cJ
 simp only[this,kC]
theorem qf{f:FuncId}(b:(ar.mode f == 2)=true)(dep:Nat)(H:aa)(r:Ref)(first args a:List AV) :
 aL ar true (aN ar) (cB ar dep) H r (some (.fn (.func f) first a)) args=cB ar dep (.fn f) (first++args++a) H:=by
 have h:ar.mode f=2:=by simpa using b
 simp[aL,iq,ju,gx,tj,h]
theorem oV(dep:Nat)(H:aa)(r:Ref)(args:List AV):aL ar true (aN ar) (cB ar dep) H r (some (.fn (.func 108) [] [])) args=cB ar dep (.fn 108) args H:=by
 rw[qf (by rfl)];simp
theorem qx(dep:Nat)(H:aa)(r:Ref)(args:List AV):aL ar true (aN ar) (cB ar dep) H r (some (.fn (.func 101) [] [])) args=cB ar dep (.fn 101) args H:=by
 rw[qf (by rfl)];simp
theorem oO(dep:Nat)(H:aa)(r:Ref)(args:List AV):aL ar true (aN ar) (cB ar dep) H r (some (.fn (.func 71) [] [])) args=cB ar dep (.fn 71) args H:=by
 rw[qf (by rfl)];simp
end
section
attribute [local simp] cC bV bn bW iv kM bm kp cI bY bX eQ eP aO ej
def A9(s:bK):AV := .agg [aI s.pos,.fsl 1 (cR s.bs) none]
def aY(l:List bK):List AV:=l.map A9
@[simp] theorem jE(l:List bK):(aY l).length=l.length:=by simp[aY]
theorem nQ(l:List bK) : ∀e∈aY l,Bz e=true:=by
 intro e a
 obtain⟨s,_,rfl⟩:=gy.1 a
 rfl
theorem ug(l:List bK):(aY l).map sd=an (kg l):=by
 unfold aY an kg
 rw[uS,uS]
 rfl
theorem wV{s:bK}(h:dy s) : ∃a,s.enc = .agg a/\a.all nn=true:=by
 refine⟨_,rfl,?_⟩
 rcases h with ⟨h,_⟩ | ⟨c,h,_⟩<;>simp[h,nn]
theorem AF{g:bD}{l:List bK}(i : ∀s∈l,dy s):F2 (DE g) (an l) (an l)/\(an l).flatMap dE=[]:=CQ λe b=>by
 obtain⟨s,a,rfl⟩:=gy.1 b
 exact wV (i s a)
def lA(l:List bK)(k:Nat):List AV:=aY (l.take k)++an (l.drop k)
theorem BD(l:List bK)(k:Nat)(h:k<=l.length):(lA l k).length=l.length:=by simp[lA];omega
theorem Dt(l:List bK)(k:Nat)(h:k<l.length):(lA l k)[k]?=some (.agg [aI l[k].pos,l[k].av]):=by
 have a:(aY (l.take k)).length=k:=by simp;omega
 unfold lA
 rw[fS (by omega),a,kf]
 simp[an,h,bK.enc]
theorem BC(l:List bK)(k:Nat)(h:k<l.length):(lA l k).set k (A9 l[k])=lA l (k+1):=by
 unfold lA
 have b:(aY (l.take k)).length=k:=by simp;omega
 have a:l.drop k=l[k] :: l.drop (k+1):=yF h
 rw[tV _ _ (by omega),b,kf,a]
 show aY (l.take k)++(bK.enc l[k] :: an (l.drop (k+1))).set 0 (A9 l[k])=_
 rw[tS,List.take_succ_eq_append_getElem h]
 unfold aY
 rw[uV,om]
 rfl
theorem jL{H:aa}(a:Fr H){d t:Nat}:H.get ⟨d,t,H.gen d t,0⟩=none:=a d t _ 0 (a7 _)
section
variable{l:List bK}{x:AV}{st lf:Int}{dd:Bool}(o:Sl 2 (an l) x)(i : ∀s∈l,dy s)(n : ∀s∈l,s.bs.length<1000000000)(u:l.length<1000000)
include o i n u
theorem xS{r1 r2 r3:Ref}(n3:r1≠r2){Q:AV->aa->Prop} : ∀(m k:Nat)(H:aa)(f:List Ref),k+m=l.length->Fr H->H.get r1=some ⟨4,[a6 x st lf dd],false,false⟩->H.get r2=some ⟨4,[a6 bt 0 0 false],false,false⟩ ->
 eG 2 H r3 (lA l k) f->r1 ∉ f->r2 ∉ f ->
 (∀H' f,eG 2 H' r3 (aY l) f->Q (a6 (.dsl r3 0 l.length none) st lf dd) H') ->
 gm ar Try.f67 0 fL [(10,aI k),(3,.dsl r3 0 l.length none),(2,.ptr r2 0 0),(1,.ptr r1 0 0),(9,aI l.length)] H Q:=by
 intro m
 induction m with
 | zero=>
  intro k H f D hF J L t K M E
  obtain rfl:k=l.length:=by omega
  have e:lA l l.length=aY l:=by simp[lA,an]
  rw[e]at t
  have n1:r1≠r2:=n3
  have n4:r2≠r1:=λe=>n3 e.symm
  refine gS _ _ _ _ _ _ _ λg=>?_
  have D : ∀(b R:Option ax),eG 2 ((H.put r1 b).put r2 R) r3 (aY l) f:=λb R=>t.bm λq C k D=>by
   rw[aa.aj,if_neg (λe:q=r2=>M (by rw[<-e];exact C)),aa.aj,if_neg (λe:q=r1=>K (by rw[<-e];exact C))]
   exact D
  have x6:=λb R=>E _ f (D b R)
  clear E D t
  simp only[a6]at J L x6
  simp[ca, *,fQ,aa.aj]
 | succ m ih=>
  intro k H f D hF J L t K M E
  have P:k<l.length:=by omega
  have hp:=i l[k] (eE _)
  have ho:=DK hp (n l[k] (eE _))
  have G:=hp.r
  have e3:=IntWalk.i64_in ((k:Int)+1) (by omega)
  have y:=Dt l k P
  obtain⟨q,C⟩ : ∃q:Ref,q=⟨0,20,H.gen 0 20,0⟩:=⟨_,rfl⟩
  have c:H.get q=none:=by rw[C];exact jL hF
  obtain⟨es,z,T,g2,g3,g4⟩:=t.set y (j:=1) (by simp) c 1 (by decide) (cR l[k].bs) none
  obtain⟨es',xs,N,g5,g6,S,_⟩:=t.at y
  rw[T]at N
  cases N
  have Ko:bq es k 1 1 false=some l[k].av:=by
   unfold bq
   rw[g6]
   match xs,S with
   | [a,b],S=>
    have B:=S.2.1
    rcases B with ⟨rfl,_⟩ | ⟨_,_,_,_,_,B,_⟩
    ·rfl
    ·rw[B]at G
     exact absurd (G.2.1 (λ_=>none) 0) (by simp[Ab.view])
  have O : .agg (patch [aI l[k].pos,l[k].av] 1 [.fsl 1 (cR l[k].bs) none])=A9 l[k]:=rfl
  rw[O,BC l k P]at g4
  have A:r3∈f:=by
   obtain⟨_,_,_,W,_⟩:=t
   rw[W];simp
  have u1:r3≠r1:=λe=>K (e ▸ A)
  have u2:r3≠r2:=λe=>M (e ▸ A)
  have Z:r1≠r3:=λe=>u1 e.symm
  have Y:r2≠r3:=λe=>u2 e.symm
  have v1:q≠r1:=λe=>by rw[e,J]at c;cases c
  have v2:q≠r2:=λe=>by rw[e,L]at c;cases c
  have X:q≠r3:=λe=>by rw[e,T]at c;cases c
  have key : ∀Q':aa->Prop,(∀H',Fr H'->H'.get r1=some ⟨4,[a6 x st lf dd],false,false⟩->H'.get r2=some ⟨4,[a6 bt 0 0 false],false,false⟩->(∃d,eG 2 H' r3 (lA l (k+1)) d/\r1 ∉ d/\r2 ∉ d)->Q' H') ->
   Q' ((q,some ⟨1,cR l[k].bs,true,false⟩) :: H.put r3 (some ⟨2,z,false,false⟩)):=by
   intro Q' h
   obtain⟨I,v⟩ : ∃I:aa,I=(q,some ⟨1,cR l[k].bs,true,false⟩) :: H.put r3 (some ⟨2,z,false,false⟩):=⟨_,rfl⟩
   have F : ∀p,I.get p=if q=p then some ⟨1,cR l[k].bs,true,false⟩ else if p=r3 then some ⟨2,z,false,false⟩ else H.get p:=λp=>by rw[v,aa.bJ,aa.aj]
   obtain⟨d,a1,a2⟩:=g4 I (by rw[F,if_neg X,if_pos rfl]) (by rw[F,if_pos rfl]) (λp b hp B=>by
    rw[F,if_neg (λe=>by rw[<-e,c]at B;cases B),if_neg hp];exact B)
   rw[<-v]
   refine h I ?_ (by rw[F,if_neg v1,if_neg Z];exact J) (by rw[F,if_neg v2,if_neg Y];exact L) ⟨d,a1,λU=>?_,λU=>?_⟩
   ·rw[v,C]
    exact jr (ke hF (by rw[T];rfl) _) (aa.b8 _ _ _ (by rw[T];rfl) _ _).symm _
   ·rcases a2 _ U with e | e
    ·exact K e
    ·exact v1 e.symm
   ·rcases a2 _ U with e | e
    ·exact M e
    ·exact v2 e.symm
  have w:=λH' f=>ih (k+1) H' f (by omega)
  rw[show((k+1:Nat):Int)=(k:Int)+1 from by omega]at w
  have I2:=key (λH'=>gm ar Try.f67 0 fL [(10,aI ((k:Int)+1)),(3,.dsl r3 0 l.length none),(2,.ptr r2 0 0),(1,.ptr r1 0 0),(9,aI l.length)] H' Q) (λH' b1 b2 b3 b4=>by
   obtain⟨d,b5,b6,b7⟩:=b4
   exact w H' d b1 b2 b3 b5 b6 b7 E)
  clear ih w key g4 g6 S i n y t O K M A J L E
  have Kn:es.length=l.length:=by rw[g2,BD l k (by omega)]
  refine gS _ _ _ _ _ _ _ λg=>?_
  have V:r3≠q:=λe=>X e.symm
  simp only[C,jh]at I2 X V c g3
  clear C
  simp[ca, *,fQ,eo,aa.aj,aa.bJ]
  done
end
theorem xM{f:FuncId}(b:iv.contains f=true){H:aa}{s:AV}{es':List AV}{e:List Ref}(h:j5 2 H s es' e)(st lf:Int)(dd:Bool):eK ar f (a6 s st lf dd) H (a6 (oS 2 s es') st lf dd):=by
 obtain⟨a,g,d,j⟩:=h.out 4
 have c:=h.nodup
 rw[iw b]
 unfold a6
 simp[a,d,c]
def AZ(x:AV)(l:List bK):AV:=match x with
 | .cE z [] _ => .fsl z [] (some 0)
 | .cE z _ _ => .nsl z (aY l) none
 | x=>x
theorem qS{l:List bK}{x:AV}(o:Sl 2 (an l) x):tL 2 (aY l) (AZ x l):=by
 rcases o with ⟨rfl,he⟩ | ⟨c,rfl,_⟩
 ·have:l=[]:=by simpa [an] using he
  subst this
  exact .inl ⟨rfl,rfl⟩
 ·cases l with
  | nil=>exact .inr (.inl ⟨rfl,rfl⟩)
  | cons p l=>exact .inr (.inr ⟨rfl,by simp[aY]⟩)
section
variable{l:List bK}{x:AV}{st lf:Int}{dd:Bool}(o:Sl 2 (an l) x)(i : ∀s∈l,dy s)(n : ∀s∈l,s.bs.length<1000000000)(u:l.length<1000000)
include o i n u
theorem DL:aN ar 67 [a6 x st lf dd]=some (a6 (AZ x l) st lf dd):=by
 refine iA (fn:=Try.f67) (c:=nE) rfl (by kernel_rfl) (by kernel_rfl) (by kernel_rfl) (by kernel_rfl) ?_;refine rR _ _ _ λg=>?_
 rcases o.IW with ⟨rfl,he⟩ | ⟨c,rfl⟩
 ·have p:l=[]:=by simpa [an] using he
  subst p
  have t:=xU 0
  simp only[a6]
  simp[ca, *,jo,o.r,AZ,oV]
  refine gS _ _ _ _ _ _ _ λg=>?_
  simp[ca, *,fQ]
 ·by_cases m:l=[]
  ·subst m
   have t:=λH=>xV 0 H c
   have k:an []=[]:=rfl
   rw[k]at o ⊢
   simp only[a6]
   simp[ca, *,jo,o.r,AZ,oV]
   refine gS _ _ _ _ _ _ _ λg=>?_
   simp[ca, *,fQ,aG]
  ·have q:an l≠[]:=by simp[an,m]
   have j:=pI l
   have t:=λH=>Fx q (by simp;omega) 0 H c
   have d:AZ (.cE 2 (an l) c) l = .nsl 2 (aY l) none:=by
    cases l with
    | nil=>exact(m rfl).elim
    | cons _ _=>rfl
   have k:lA l 0=an l:=by simp[lA,aY]
   obtain⟨f1,f2⟩:=AF (g:=λ_=>none) i
   have v:=λ(Q:AV->aa->Prop) r3 H b=>xS (st:=st) (lf:=lf) (dd:=dd) (x := .cE 2 (an l) c) o i n u (r1:=⟨0,1,0,0⟩) (r2:=⟨0,2,0,0⟩) (r3:=r3) (by simp) (Q:=Q) l.length 0 H b (by omega)
   have e : ∀(H:aa) r3,H.get r3=some ⟨2,an l,false,false⟩->eG 2 H r3 (lA l 0) [r3]:=λH r3 h=>⟨an l,h,by rw[k];exact(AF i).1,by rw[f2],by simp⟩
   have a : ∀(H':aa) r3 b,eG 2 H' r3 (aY l) b->eK ar 67 (a6 (.dsl r3 0 l.length none) st lf dd) H' (a6 (.nsl 2 (aY l) none) st lf dd):=λH' r3 b h=>by
    have:=xM (f:=67) (by rfl) (h.row (by simp[aY,m])) st lf dd
    rw[jE]at this
    exact this
   rw[d]
   clear i k f1 f2 d
   simp only[a6]at v a ⊢
   generalize an l=es at *
   simp only[j]at t
   simp[ca, *,jo,o.r,oV]
   refine v _ _ _ [_] ?_ ?_ ?_ (e _ _ ?_) ?_ ?_ λH' b h=>a H' _ b h
   ·unfold DO ic
    exact(by simp(maxDischargeDepth:=12) [z7, *])
   all_goals simp[q8,ic]
   done
end
end
end Go.Proofs.Ytjampffmlnplcaa
namespace Go.Proofs.Ytjampffmlnplcaa
open Go.Ab Go.ChangeShapes Go.WideShapes Go.RowKit
theorem own:ownKnob Try.prog.godebug=none:=by kernel_rfl
theorem kids:Kids Try.prog (· < Try.prog.types.size):=kids_rows (by kernel_rfl) (by kernel_rfl)
theorem Cx{n:Nat}{x:AV}(h:BR env.P n 3 x) : ∃i:Int,(-9223372036854775808<=i/\i<=9223372036854775807)/\x=aI i:=by
 obtain⟨i,a,e⟩:=qW (P:=env.P) (t:=3) (by simp) _ _ (h.cell (by simp))
 cases e
 exact⟨i,a,rfl⟩
theorem Cv{N:Nat}{l:List bK}{x:AV}{st lf:Int}{dd:Bool}(c:Sl 2 (an l) x)(a : ∀s∈l,dy s)(h:kz N (a6 x st lf dd)) : ∀s∈l,s.bs.length<=N:=by
 intro s b
 have d:=h.parts x (by simp)
 have e:=(d.sl c).2 s.enc (tU b)
 have f:=e.parts s.av (by simp)
 have g:=(f.sl (a s b)).1
 simpa using g
theorem GC{n:Nat}{x:AV}(h:BR env.P n 98 x) : ∃l:List UInt8,Sl 1 (cR l) x:=by
 obtain⟨l,z,e,a⟩:=wU (P:=env.P) (t:=98) (e:=5) (by simp) (by simp) (by simp) (by simp) (h.cell (by simp))
 cases e
 exact⟨l,a⟩
end Go.Proofs.Ytjampffmlnplcaa
namespace Go.Proofs.Ytjampffmlnplcaa
open Go.Ab
section
attribute [local simp] cC bV bn bW iv kM bm kp cI bY bX eQ eP aO ej
theorem C6{y:AV}(st lf:Int)(dd:Bool) : ∀r s a,ad r 7 y []=(s,a)->ad r depth (a6 y st lf dd) []=(a6 s st lf dd,a):=by
 intro r s a h
 unfold a6
 show(λp:List AV × List ax=>(AV.agg p.1,p.2)) ([y,aI st,aI lf,aB dd].foldl (λ(p:List AV × List ax) c=>let (y,a):=ad r 7 c p.2;(p.1++[y],a)) ([],[]))=_
 simp only[lg,h]
 rfl
theorem C5{y:AV}(st lf:Int)(dd:Bool)(e:Int) : ∀r s a,ad r 6 y []=(s,a)->ad r depth (.tup [a6 y st lf dd,aI e]) []=(.tup [a6 s st lf dd,aI e],a):=by
 intro r s a h
 have b:ad r 7 (a6 y st lf dd) []=(a6 s st lf dd,a):=by
  unfold a6
  show(λp:List AV × List ax=>(AV.agg p.1,p.2)) ([y,aI st,aI lf,aB dd].foldl (λ(p:List AV × List ax) c=>let (y,a):=ad r 6 c p.2;(p.1++[y],a)) ([],[]))=_
  simp only[lg,h]
  rfl
 show(λp:List AV × List ax=>(AV.tup p.1,p.2)) ([a6 y st lf dd,aI e].foldl (λ(p:List AV × List ax) c=>let (y,a):=ad r 7 c p.2;(p.1++[y],a)) ([],[]))=_
 simp only[lg,b]
 rfl
theorem pW{l:List bK}{x:AV}{st lf:Int}{dd:Bool}(c:Sl 2 (an l) x)(b : ∀s∈l,dy s)(a : ∀s∈l,s.bs.length<1000000000)(g:l.length<1000000){H:aa}{r:Ref}(f : ∃d t,r=⟨d,t,H.gen d t,0⟩){K:AV->aa->Prop}{refs:List Ref}(i:Fr H)
 (h : ∀H' s e,Fr H'->j5 2 H' s (aY l) e->tg H H' refs->(∀q∈e,H.get q=none)->oS 2 s (aY l)=AZ x l->K (a6 s st lf dd) H') :
 ga (j4 true H r refs (aN ar 67 [a6 x st lf dd])) K:=
 uN f (z:=2) (by decide) (n:=4) (mk:=λs=>a6 s st lf dd) (DL c b a g) (C6 st lf dd) (qS c) (nQ l) i h
theorem gJ{z:Nat}{H:aa}{s:AV}{es':List AV}{a:List Ref}(h:j5 z H s es' a):s.cells=[s]/\s.one=true:=by
 rcases h with ⟨rfl,_,_⟩ | ⟨r,rfl,_,_,_⟩ | ⟨r,es,rfl,_⟩<;>exact⟨rfl,rfl⟩
theorem mR{f:FuncId}(b:iv.contains f=true){H:aa}{s:AV}{es':List AV}{g:List Ref}(h:j5 2 H s es' g)(st lf:Int)(dd:Bool)(e:Int):eK ar f (.tup [a6 s st lf dd,aI e]) H (.tup [a6 (oS 2 s es') st lf dd,aI e]):=by
 obtain⟨a,i,d,j⟩:=h.out 3
 have c:=h.nodup
 rw[iw b]
 unfold a6
 simp[a,d,c]
end
section
attribute [local simp] cC bV bn bW iv kM bm kp cI bY bX eQ eP aO ej
section
variable{l:List bK}{x:AV}{st lf:Int}{dd:Bool}(d:Sl 2 (an l) x)(a : ∀s∈l,dy s)(f:l.length<1000000)
include d a f
theorem Fw(n:Int):aN ar 54 [a6 x st lf dd,aI n]=some (
 if mr l st lf dd then (if n < -1\/2147483648<=n then .tup [jP,aI 2] else if st+1>=2147483648 then .tup [jP,aI 9] else .tup [a6 (AZ x l) (st+1) n false,aI 0]) else .tup [jP,aI 8]):=by
 refine iA (fn:=Try.f54) (c:=m8) rfl (by kernel_rfl) (by kernel_rfl) (by kernel_rfl) (by kernel_rfl) ?_;refine qG _ _ _ _ λg=>?_
 have p:=ia (by rfl) (vv (st:=st) (lf:=lf) (dd:=dd) d a (by omega))
 cases m:mr l st lf dd
 ·simp[m]at p
  simp only[a6,jP]at p ⊢
  simp[ca, *,gl,d.r]
 ·simp[m]at p
  have M : -1<st/\st<2147483648:=by
   unfold mr tH at m
   simp at m
   omega
  have o : ∀s∈l,s.bs.length<1000000000:=λs I=>by
   have:=lD l (-1) (iC m) s I
   omega
  have P:=IntWalk.i64_in (st+1) (by omega)
  have u:=λH r K refs F L=>pW (st:=st) (lf:=lf) (dd:=dd) d a o f (H:=H) (r:=r) (K:=K) (refs:=refs) F L
  simp only[a6,jP]at p u ⊢
  clear a
  by_cases y:n < -1\/2147483648<=n
  ·simp only[if_pos y]
   simp[ca, *,gl,d.r]
   repeat' ((first | apply nD<;>intro h | apply kW<;>intro h | apply kX<;>intro h | apply kU<;>intro h | apply kV<;>intro h)<;>(try simp only[decide_eq_true_eq,decide_eq_false_iff_not,gb,nf,bR,iK]at h)<;>(try simp[ca, *]))
   all_goals omega
  ·simp only[if_neg y]
   by_cases z:st+1>=2147483648
   ·simp only[if_pos z]
    simp[ca, *,gl,d.r]
    repeat' ((first | apply nD<;>intro h | apply kW<;>intro h | apply kX<;>intro h | apply kU<;>intro h | apply kV<;>intro h)<;>(try simp only[decide_eq_true_eq,decide_eq_false_iff_not,gb,nf,bR,iK]at h)<;>(try simp[ca, *]))
    all_goals omega
   ·simp only[if_neg z]
    have O : ¬n < -1:=by omega
    have T : ¬2147483648<=n:=by omega
    have S : ¬2147483648<=st+1:=by omega
    simp[ca, *,gl,d.r]
    refine u _ _ _ _ ⟨_,_,rfl⟩ (by simp(maxDischargeDepth:=12) [z7, *]) λH' s v C i w k A=>?_
    have R:=gJ i
    have N:=w.same (q:=⟨0,2,0,0⟩) (by simp) (by simp;rfl)
    have Q:=w.same (q:=⟨0,4,0,0⟩) (by simp) (by simp;rfl)
    have D:(⟨0,2,0,0⟩:Ref) ∉ v:=λt=>by have:=k _ t;simp at this
    have E:(⟨0,4,0,0⟩:Ref) ∉ v:=λt=>by have:=k _ t;simp at this
    have j : ∀H9:aa,(∀q∈v,∀b,H'.get q=some b->H9.get q=some b)->eK ar 54 (.tup [a6 s (st+1) n false,aI 0]) H9 (.tup [a6 (AZ x l) (st+1) n false,aI 0]):=λH9 G=>by
     rw[<-A]
     exact mR (by rfl) (i.bm G) _ _ _ _
    simp only[a6]at j
    clear w k i u A
    simp[-iw,eo,aa.aj, *]
    refine j _ λq B b J=>?_
    have n1 : ¬q=⟨0,2,0,0⟩:=λe=>D (by rw[<-e];exact B)
    have n2 : ¬q=⟨0,4,0,0⟩:=λe=>E (by rw[<-e];exact B)
    simp[aa.aj,n1,n2,J]
    done
end
end
section
attribute [local simp] cC bV bn bW iv kM bm kp cI bY bX eQ eP aO ej
theorem xz{es:List AV}{n:Nat}(v:AV)(b:n<=es.length):(ck es n v)[n]?=some v:=by
 have a:(es.take n).length=n:=by rw[ik];omega
 unfold ck
 rw[fS (by omega),a,kf];rfl
theorem Bx{es:List AV}{n:Nat}(v w:AV)(b:n<=es.length):(ck es n v).set n w=ck es n w:=by
 have a:(es.take n).length=n:=by rw[ik];omega
 unfold ck
 rw[tV _ _ (by omega),a,kf,tS]
theorem sM{dep:Nat}{f:FuncId}{args:List AV}{H:aa}{z:AV × aa}(h:ar.thrSpec f args H=some z):cB ar dep (.fn f) args H=some z:=
 kq.2 ⟨0,λm _=>by unfold cJ;simp only[h]⟩
theorem DM{H:aa}{s:AV}{es':List AV}{M:List Ref}{O:Ref}{q:Int}{n:Nat}{fz:Bool}{U:Option Nat}(N:j5 2 H s es' M)(Y:H.get O=some ⟨2,[.agg [aI q,bt]],true,fz⟩)(T:n<=es'.length)(hl:es'.length<1000000)(v:Fr H)(dep:Nat) :
 ∃r' H' z,cB ar dep (.fn 101) [s,aI n,.aD O 0 1 U] H=some (.dsl r' 0 (es'.length+1) none,H')/\Fr H'/\eG 2 H' r' (ck es' n (.agg [aI q,bt])) z /\
  (∀p∈z,p∈M\/H.get p=none) /\∀p b,p ∉ M->H.get p=some b->H'.get p=some b:=by
 have X:(bg Try.prog 91).bind (ay Try.prog)=some 2:=by kernel_rfl
 have V:(bg Try.prog 91).bind (db Try.prog)=some 32:=by kernel_rfl
 have i:([aI q,bt]:List AV).all nn=true:=rfl
 have j : ∀args H,ar.thrSpec 101 args H=lC Try.prog 91 40 25 args H:=λargs H=>rfl
 have m : ∀s:AV,(∀r n,s ≠ .dsl r 0 n none)->mn 2 H.get s=true->cB ar dep (.fn 101) [s,aI 0,.aD O 0 1 U] H=some (.dsl (ic 25 H) 0 1 none,(ic 25 H,some ⟨2,[.agg [aI q,bt]],false,false⟩) :: H):=by
  intro s N he
  refine sM ?_
  rw[j]
  unfold lC
  split
  ·rename_i e
   injection e with e _
   exact absurd e (N _ _)
  ·rename_i e
   injection e with e1 e
   injection e with e2 e
   injection e with e3 e
   cases e1
   cases e3
   simp only[Y,X,V]
   rw[if_pos (by refine⟨he,?_,?_,?_,?_,?_⟩<;>first | trivial | rfl | decide | simp[aO])]
  ·rename_i h1 h2
   exact absurd rfl (h2 _ _ _)
 have k : ∀n:Nat,n=0->eG 2 ((ic 25 H,some ⟨2,[.agg [aI q,bt]],false,false⟩) :: H) (ic 25 H) (ck [] n (.agg [aI q,bt])) [ic 25 H]:=by
  rintro n rfl
  refine⟨[.agg [aI q,bt]],by rw[aa.bJ,if_pos rfl],⟨sx i,trivial⟩,by simp[p4 i],by simp⟩
 have u:H.get (ic 25 H)=none:=jL v
 have f : ∀p b,H.get p=some b->aa.get ((ic 25 H,some ⟨2,[.agg [aI q,bt]],false,false⟩) :: H) p=some b:=λp b a=>by
  rw[aa.bJ,if_neg (λe=>by rw[<-e,u]at a;cases a)];exact a
 rcases N with ⟨rfl,rfl,rfl⟩ | ⟨r,rfl,rfl,rfl,h4⟩ | ⟨r,es,rfl,Kn,K,P,rfl,E⟩
 ·obtain rfl:n=0:=by simpa using T
  exact⟨_,_,_,m _ (λr n e=>by cases e) rfl,jr v rfl _,k 0 rfl,λp hp => .inr (by simp at hp;rw[hp];exact u),λp b _ a=>f p b a⟩
 ·obtain rfl:n=0:=by simpa using T
  exact⟨_,_,_,m _ (λr n e=>by cases e) (by simp[mn,h4]),jr v rfl _,k 0 rfl,λp hp => .inr (by simp at hp;rw[hp];exact u),λp b _ a=>f p b a⟩
 ·have J:=P.len
  have R:H.get (jb 40 H r)=none:=jL v
  have o:H.get ⟨r.d,r.t,H.gen r.d r.t,0⟩=none:=jL v
  obtain⟨r',c⟩ : ∃r':Ref,r'=⟨r.d,r.t,H.gen r.d r.t,0⟩:=⟨_,rfl⟩
  rw[<-c]at o
  have x6:r'≠r:=λe=>by rw[e,K]at o;cases o
  refine⟨r',mP 40 H r ⟨2,ck es n (.agg [aI q,bt]),false,false⟩,r' :: es.flatMap dE,?_,?_,?_,?_,?_⟩
  ·refine sM ?_
   rw[j]
   simp only[lC,K,Y,X,V]
   rw[if_pos (by refine⟨?_,?_,?_,?_,?_,?_,?_,?_,?_,?_,?_⟩<;>first | trivial | rfl | decide | omega | (simp only[aO];omega))]
   rw[c,J]
   rfl
  ·unfold mP jb
   have S : ∀d t,(H.put r none).gen d t=H.gen d t:=λd t=>aa.b8 H r none (by rw[K];rfl) d t
   refine jr (jr (ke v (by rw[K];rfl) _) (S _ _).symm _) ?_ _
   rw[aa.je,if_neg (λh=>by have:=h.1;omega),S]
  ·have l : ∀p b,p∈es.flatMap dE->H.get p=some b->(mP 40 H r ⟨2,ck es n (.agg [aI q,bt]),false,false⟩).get p=some b:=by
    intro p b hp a
    rw[jd 40 p R,<-c,if_neg (λe=>by rw[<-e,o]at a;cases a),if_neg (λe=>(nc.1 E).1 (by rw[<-e];exact hp))]
    exact a
   have I:es'=es'.take n++es'.drop n:=(u5 n es').symm
   obtain⟨A,B,g,W,hB⟩:=F2.split (A':=es'.take n) (B':=es'.drop n) (by rw[<-I];exact P)
   have C:A.length=n:=by rw[W.len,ik];omega
   have F:es.take n=A:=by rw[g,<-C,List.take_left'];rfl
   have w:es.drop n=B:=by rw[g,<-C,List.drop_left'];rfl
   have Q:(ck es n (.agg [aI q,bt])).flatMap dE=es.flatMap dE:=by
    unfold ck
    rw[F,w,rh,gz,p4 i,mZ,<-rh,<-g]
   refine⟨ck es n (.agg [aI q,bt]),by rw[jd 40 _ R,if_pos c.symm],?_,by rw[Q],?_⟩
   ·generalize (mP 40 H r ⟨2,ck es n (.agg [aI q,bt]),false,false⟩).get=G at *
    unfold ck
    rw[F,w]
    refine F2.app (F2.mono (λx L y D=>DE.bm D λp hp b a=>l p b ?_ a) W) ⟨sx i,F2.mono (λx L y D=>DE.bm D λp hp b a=>l p b ?_ a) hB⟩
    ·rw[g];exact dt.2 ⟨x,by simp[L],hp⟩
    ·rw[g];exact dt.2 ⟨x,by simp[L],hp⟩
   ·refine nc.2 ⟨λZ=>?_,(nc.1 E).2⟩
    obtain⟨b,a⟩:=F2.live (λx y D=>DE.live D) P _ Z
    rw[o]at a
    cases a
  ·intro p hp
   rcases dg.1 hp with rfl | hp
   ·exact .inr o
   ·exact .inl (gv _ hp)
  ·intro p b hp a
   rw[jd 40 p R,<-c,if_neg (λe=>by rw[<-e,o]at a;cases a),if_neg (λe=>hp (by rw[e];simp))]
   exact a
theorem Hd{H:aa}{s:AV}{es':List AV}{c:List Ref}{d:Ref}{q:Int}{n:Nat}{fz:Bool}{l:Option Nat}(k:j5 2 H s es' c)(j:H.get d=some ⟨2,[.agg [aI q,bt]],true,fz⟩)(h:n<=es'.length)(m:es'.length<1000000)(t:Fr H){dep:Nat}{K:AV->aa->Prop}
 (o : ∀r' H' a,Fr H'->eG 2 H' r' (ck es' n (.agg [aI q,bt])) a->(∀p∈a,p∈c\/H.get p=none)->(∀p b,p ∉ c->H.get p=some b->H'.get p=some b)->K (.dsl r' 0 (es'.length+1) none) H') :
 ga (cB ar dep (.fn 101) [s,aI n,.aD d 0 1 l] H) K:=by
 obtain⟨r',H',a,f,g,i,u,e⟩:=DM k j h m t dep
 exact vU f (o r' H' a g i u e)
theorem IN{H:aa}{r':Ref}{es':List AV}{z:List Ref}{N m:Nat}{pos:Int}{c' O:AV}{b:List UInt8}{r:Ref}(S : ∃d t,r=⟨d,t,H.gen d t,0⟩){K:aa->Prop}(x:Sl 1 (cR b) O)(u:b.length<1000000000)(Q:Fr H)(g:eG 2 H r' es' z)(R:m=es'.length)(l:es'[N]?=some (.agg [aI pos,c']))
 (M : ∀f s,Fr f->eG 2 f r' (es'.set N (.agg [aI pos,.fsl 1 (cR b) none])) s->(∀p∈s,p∈z\/H.get p=none)->(∀p k,p ∉ z->H.get p=some k->f.get p=some k)->K f) :
 ga (j4 false H r [] (aN ar 102 [O])) λv L=>fB (bj env.P L.get 91 (some (.dsl r' 0 m none)) (some (aI N))) λa=>fB (du env.P 146 (some a) 1) λJ=>ga (eB env.P L 98 (some J) (some v)) λ_ f=>K f:=by
 obtain⟨d,t,rfl⟩:=S
 subst R
 have Y:=DK x u
 obtain⟨o,h⟩ : ∃q:Ref,q=⟨d,t,H.gen d t,0⟩:=⟨_,rfl⟩
 have c:H.get o=none:=by rw[h];exact jL Q
 obtain⟨es,n,E,X,U,I⟩:=g.set l (j:=1) (by simp) c 1 (by decide) (cR b) none
 have w : .agg (patch [aI pos,c'] 1 [.fsl 1 (cR b) none])=AV.agg [aI pos,.fsl 1 (cR b) none]:=rfl
 rw[w]at I
 have W:N<es'.length:=(bL.1 l).1
 have D:o≠r':=λe=>by rw[e,E]at c;cases c
 have T:r'∈z:=by
  obtain⟨_,_,_,C,_⟩:=g
  rw[C];simp
 have A:K ((o,some ⟨1,cR b,true,false⟩) :: H.put r' (some ⟨2,n,false,false⟩)):=by
  obtain⟨f,i⟩ : ∃f:aa,f=(o,some ⟨1,cR b,true,false⟩) :: H.put r' (some ⟨2,n,false,false⟩):=⟨_,rfl⟩
  have y : ∀p,f.get p=if o=p then some ⟨1,cR b,true,false⟩ else if p=r' then some ⟨2,n,false,false⟩ else H.get p:=λp=>by rw[i,aa.bJ,aa.aj]
  obtain⟨F,V,J⟩:=I f (by rw[y,if_neg D,if_pos rfl]) (by rw[y,if_pos rfl]) (λp b hp x=>by
   rw[y,if_neg (λe=>by rw[<-e,c]at x;cases x),if_neg hp];exact x)
  rw[<-i]
  refine M f F ?_ V (λp hp=>?_) (λp k hp G=>?_)
  ·rw[i,h]
   exact jr (ke Q (by rw[E];rfl) _) (aa.b8 _ _ _ (by rw[E];rfl) _ _).symm _
  ·rcases J p hp with e | e
   ·exact .inl e
   ·exact .inr (by rw[e];exact c)
  ·rw[y,if_neg (λe=>by rw[<-e,c]at G;cases G),if_neg (λe=>hp (by rw[e];exact T))]
   exact G
 have B:r'≠o:=λe=>D e.symm
 clear I M l g w
 simp only[h,jh]at A D B c U
 clear h
 simp[eo,aa.aj,aa.bJ, *]
 done
end
section
attribute [local simp] cC bV bn bW iv kM bm kp cI bY bX eQ eP aO ej
theorem wN{l:List bK}{x:AV}(d:Sl 2 (an l) x):Sl 2 (an (kg l)) (pk (AZ x l)):=by
 rcases d with ⟨rfl,he⟩ | ⟨c,rfl,_⟩
 ·have:l=[]:=by simpa [an] using he
  subst this
  exact .inl ⟨rfl,rfl⟩
 ·cases l with
  | nil=>exact .inr ⟨some 0,rfl,a7 _⟩
  | cons p l=>
   have:pk (AZ (.cE 2 (an (p :: l)) c) (p :: l)) = .cE 2 (an (kg (p :: l))) none:=by
    show AV.cE 2 ((aY (p :: l)).map sd) none=_
    rw[ug]
   rw[this]
   exact Sl.mk _ _
theorem EO(l:List bK):aY (kg l)=aY l:=by
 unfold aY kg
 rw[uS]
 rfl
section
variable{j:AV}{N:Nat}{st lf:Int}{b:List UInt8}(f:Sl 1 (cR b) j)(i:b.length<1000000000)
include f i
theorem nJ{r':Ref}{es':List AV}{p:List Ref}{H9:aa}{c':AV}{pos:Int}{m:Nat}{es2:List AV}(G:Fr H9)(S:H9.get ⟨0,3,0,0⟩=some ⟨4,[.agg [.dsl r' 0 m none,aI st,aI lf,aB false]],false,false⟩)(M:H9.get ⟨0,6,0,0⟩=some ⟨4,[.agg [bt,aI 0,aI 0,aB false]],false,false⟩)
 (B:eG 2 H9 r' es' p) (n1:(⟨0,3,0,0⟩:Ref) ∉ p) (n2:(⟨0,6,0,0⟩:Ref) ∉ p) (D:m=es'.length) (n:es'[N]?=some (.agg [aI pos,c'])) (g:es'.set N (.agg [aI pos,.fsl 1 (cR b) none])=es2) :
 ga (j4 false H9 ⟨0,62,H9.gen 0 62,0⟩ [] (aN ar 102 [j])) λH A=>fB (bj env.P A.get 91 (some (.dsl r' 0 m none)) (some (aI N))) λC=>fB (du env.P 146 (some C) 1) λJ=>ga (eB env.P A 98 (some J) (some H)) λQ w=>
  fB (jU env.P (aa.get w) 93 (some (.ptr ⟨0,3,0,0⟩ 0 0))) λF=>ga (eB env.P w 93 (some (.ptr ⟨0,6,0,0⟩ 0 0)) (some F)) λR y=>fB (me env.P y (.ptr ⟨0,6,0,0⟩ 0 0) 93) λL=>
  eK ar 55 (.tup [L,.v (.int .i64 0)]) y (.tup [.agg [.nsl 2 es2 none,aI st,aI lf,aB false],aI 0]):=by
 refine IN ⟨_,_,rfl⟩ f i G B D n λO z U t k1 I=>?_
 rw[g]at t
 have K:es2≠[]:=by
  intro e
  rw[<-g]at e
  have:=congrArg List.length e
  rw[yl]at this
  have Y:=(bL.1 n).1
  simp only[ra]at this
  omega
 have u:es2.length=m:=by rw[<-g,yl,D]
 have W:=I _ _ n1 S
 have X:=I _ _ n2 M
 have c:=t.row K
 rw[u]at c
 have E:(⟨0,6,0,0⟩:Ref) ∉ z:=λh=>by
  rcases k1 _ h with h | h
  ·exact n2 h
  ·rw[M]at h;cases h
 have k : ∀H9:aa,(∀q∈z,∀b,O.get q=some b->H9.get q=some b)->eK ar 55 (.tup [a6 (.dsl r' 0 m none) st lf false,aI 0]) H9 (.tup [a6 (.nsl 2 es2 none) st lf false,aI 0]):=λH9 T=>mR (by rfl) (c.bm T) _ _ _ _
 simp only[a6]at k
 clear c t B k1 I g n D u
 simp[-iw,eo,aa.aj, *]
 refine k _ λq V b f=>?_
 have n2 : ¬q=⟨0,6,0,0⟩:=λe=>E (by rw[<-e];exact V)
 simp[aa.aj,n2,f]
 done
end
section
variable{l:List bK}{x:AV}{st lf:Int}{dd:Bool}(d:Sl 2 (an l) x)(a : ∀s∈l,dy s)(o:l.length<500000)
include d a o
theorem Hy{q:Int}:aN ar 58 [a6 x st lf dd,aI q]=some (
 if mr l st lf dd then (if 0<=q/\q<6146 then .tup [.fsl 1 (cR (GM l q)) none,aI 0] else .tup [bt,aI 2]) else .tup [bt,aI 8]):=by
 refine iA (fn:=Try.f58) (c:=nF) rfl (by kernel_rfl) (by kernel_rfl) (by kernel_rfl) (by kernel_rfl) ?_;refine rS _ _ _ _ λg=>?_
 have e:=ia (by rfl) (qU (st:=st) (lf:=lf) (dd:=dd) d a (by omega) (q:=q))
 cases w:mr l st lf dd
 ·simp[w]at e
  simp only[a6]at e ⊢
  simp[ca, *,gO,d.r]
 ·simp[w]at e
  by_cases m:0<=q/\q<6146
  ·rw[if_pos m]at e
   have y:=ia (by rfl) (Cz (st:=st) (lf:=lf) (dd:=dd) d a (by omega) (xk q l (-1) (iC w)) (ze l q))
   cases k:fX l q (nth l q)
   ·obtain⟨Z,A⟩ : ∃Z:List UInt8,Z=List.replicate 128 0:=⟨_,rfl⟩
    have D:Z.length=128:=by rw[A];rfl
    have B:GM l q=Z:=by unfold GM;rw[k,A];rfl
    rw[k]at y
    simp only[a6,B]at e y ⊢
    rw[if_pos m]
    have C:=so (P:=env.P) (t:=98) (z:=1) (by':=1) (zz:=a8 0) (r:=⟨0,23,0,0⟩) (by kernel_rfl) (by kernel_rfl) (n:=128) (by decide) (by decide)
    rw[show List.replicate 128 (a8 0)=cR Z from by rw[A];rfl,show((128:Nat):Int)=128 from rfl]at C
    clear A
    simp[ca, *,gO,d.r]
   ·have u:nth l q<l.length:=by
     unfold fX at k
     cases h:l[nth l q]? with
     | none=>rw[h]at k;cases k
     | some s=>exact(bL.1 h).1
    obtain⟨p,hp⟩ : ∃p,p=l[nth l q]:=⟨_,rfl⟩
    have v:=a p (by rw[hp];exact eE _)
    have B:GM l q=p.bs:=by simp[GM,k,u,hp]
    have G:=DK v (by have:=lD l (-1) (iC w) p (by rw[hp];exact eE _);omega)
    have E:=v.r
    rw[k]at y
    simp only[a6,B]at e y ⊢
    rw[if_pos m]
    have F:bq (an l) (nth l q) 1 1 false=some p.av:=by simp[an,u,bK.enc,hp]
    clear a
    subst hp
    simp[ca, *,gO,d.r,d.idx]
  ·rw[if_neg m]at e
   simp only[a6]at e ⊢
   rw[if_neg m]
   simp[ca, *,gO,d.r]
variable{j:AV}{b:List UInt8}(f:Sl 1 (cR b) j)
include f
theorem zE{q:Int}(h : ¬(mr l st lf dd=true/\(0<=q/\q<6146)/\b.length=128)):aN ar 55 [a6 x st lf dd,aI q,j]=some (
 .tup [jP,aI (if mr l st lf dd then 2 else 8)]):=by
 refine iA (fn:=Try.f55) (c:=iD) rfl (by kernel_rfl) (by kernel_rfl) (by kernel_rfl) (by kernel_rfl) ?_;refine j6 _ _ _ _ _ λg=>?_
 have e:=ia (by rfl) (qU (st:=st) (lf:=lf) (dd:=dd) d a (by omega) (q:=q))
 have i:=f.r
 cases m:mr l st lf dd
 ·simp[m]at e
  simp only[a6,jP]at e ⊢
  simp[ca, *,fb,d.r]
 ·simp[m]at e h
  by_cases k:0<=q/\q<6146
  ·rw[if_pos k]at e
   have p : ¬b.length=128:=h k.1 k.2
   have n : ¬(b.length:Int)=128:=by omega
   simp only[a6,jP]at e ⊢
   simp[ca, *,fb,d.r]
  ·rw[if_neg k]at e
   clear h
   simp only[a6,jP]at e ⊢
   simp[ca, *,fb,d.r]
theorem xT{q:Int}(w:mr l st lf dd=true)(m:0<=q/\q<6146)(D:b.length=128)(v:dd=true\/lf=0):aN ar 55 [a6 x st lf dd,aI q,j]=some (
 .tup [a6 (AZ x l) st lf true,aI 0]):=by
 refine iA (fn:=Try.f55) (c:=iD) rfl (by kernel_rfl) (by kernel_rfl) (by kernel_rfl) (by kernel_rfl) ?_;refine j6 _ _ _ _ _ λg=>?_
 have E:=ia (by rfl) (qU (st:=st) (lf:=lf) (dd:=dd) d a (by omega) (q:=q))
 have i:=f.r
 have n : ∀s∈l,s.bs.length<1000000000:=λs J=>by
  have:=lD l (-1) (iC w) s J
  omega
 have u:=λH r K refs G L=>pW (st:=st) (lf:=lf) (dd:=dd) d a n (by omega) (H:=H) (r:=r) (K:=K) (refs:=refs) G L
 simp[w,m]at E
 simp only[a6]at E u ⊢
 clear a w m
 simp[ca, *,fb,d.r]
 refine u _ _ _ _ ⟨_,_,rfl⟩ (by simp(maxDischargeDepth:=12) [z7, *]) λH' s y F h z p C=>?_
 have P:=gJ h
 have M:=z.same (q:=⟨0,3,0,0⟩) (by simp) (by simp;rfl)
 have O:=z.same (q:=⟨0,6,0,0⟩) (by simp) (by simp;rfl)
 have A:(⟨0,3,0,0⟩:Ref) ∉ y:=λt=>by have:=p _ t;simp at this
 have B:(⟨0,6,0,0⟩:Ref) ∉ y:=λt=>by have:=p _ t;simp at this
 have k : ∀H9:aa,(∀q∈y,∀b,H'.get q=some b->H9.get q=some b)->eK ar 55 (.tup [a6 s st lf true,aI 0]) H9 (.tup [a6 (AZ x l) st lf true,aI 0]):=λH9 I=>by
  rw[<-C]
  exact mR (by rfl) (h.bm I) _ _ _ _
 simp only[a6]at k
 clear z p h u C
 rcases v with rfl | rfl
 ·simp[-iw,eo,aa.aj, *]
  refine k _ λq m b f=>?_
  have n1 : ¬q=⟨0,3,0,0⟩:=λe=>A (by rw[<-e];exact m)
  have n2 : ¬q=⟨0,6,0,0⟩:=λe=>B (by rw[<-e];exact m)
  simp[aa.aj,n1,n2,f]
  done
 ·cases dd
  all_goals
   simp[-iw,eo,aa.aj, *]
   refine k _ λq m b f=>?_
   have n1 : ¬q=⟨0,3,0,0⟩:=λe=>A (by rw[<-e];exact m)
   have n2 : ¬q=⟨0,6,0,0⟩:=λe=>B (by rw[<-e];exact m)
   simp[aa.aj,n1,n2,f]
   done
theorem BJ{q:Int}(hd:mr l st lf false=true)(hq:0<=q/\q<6146)(Kv:b.length=128)(Kx : ¬lf=0):aN ar 55 [a6 x st lf false,aI q,j]=some (
 .tup [a6 (.nsl 2 (aY (Cd l q b)) none) st (if lf>0 then lf - 1 else lf) false,aI 0]):=by
 refine iA (fn:=Try.f55) (c:=iD) rfl (by kernel_rfl) (by kernel_rfl) (by kernel_rfl) (by kernel_rfl) ?_;refine j6 _ _ _ _ _ λg=>?_
 have hA:=ia (by rfl) (qU (st:=st) (lf:=lf) (dd:=false) d a (by omega) (q:=q))
 have i:=f.r
 have x6 : ∀s∈l,s.bs.length<1000000000:=λs W=>by
  have:=lD l (-1) (iC hd) s W
  omega
 have hT:=λH r K refs hr hF=>pW (st:=st) (lf:=lf) (dd:=false) d a x6 (by omega) (H:=H) (r:=r) (K:=K) (refs:=refs) hr hF
 have Z:=iC hd
 have Kw:(kg l).length<500000:=by simpa using o
 have E:=λ(y:AV)(st lf:Int)(dd:Bool)(hy:Sl 2 (an (kg l)) y)=>ia (by rfl) (Cz (st:=st) (lf:=lf) (dd:=dd) hy (vk l) (by omega) (xk q (kg l) (-1) (by rw[Gs];exact Z)) (ze _ q))
 have Ku:=ze (kg l) q
 have Kp:Cd l q b=if fX (kg l) q (nth (kg l) q) then (kg l).set (nth (kg l) q) (np q b) else (kg l).take (nth (kg l) q)++np q b :: (kg l).drop (nth (kg l) q):=by
  unfold Cd
  rw[Gq,Gr]
 rw[Kp]
 have P:=λh=>Hl (l:=kg l) (q:=q) (n:=nth (kg l) q) h
 have R:=wN d
 rw[<-EO]at hT
 generalize nth (kg l) q=N at *
 generalize kg l=L at *
 simp[hd,hq]at hA
 have Ky : -1<=lf/\lf<2147483648:=by
  unfold mr tH at hd
  simp at hd
  omega
 have ew:=IntWalk.i64_in (lf - 1) (by omega)
 simp only[a6]at hA hT E ⊢
 clear a hd hq Kp Z
 simp[ca, *,fb,d.r]
 refine hT _ _ _ _ ⟨_,_,rfl⟩ (by simp(maxDischargeDepth:=12) [z7, *]) λH' s U Kn u O Kq ho=>?_
 have hc:=gJ u
 have b1:=O.same (q:=⟨0,3,0,0⟩) (by simp) (by simp;rfl)
 have b2:=O.same (q:=⟨0,6,0,0⟩) (by simp) (by simp;rfl)
 have m1:(⟨0,3,0,0⟩:Ref) ∉ U:=λhm=>by have:=Kq _ hm;simp at this
 have m2:(⟨0,6,0,0⟩:Ref) ∉ U:=λhm=>by have:=Kq _ hm;simp at this
 clear hT O
 have hv : ∀G:aa,(∀q∈U,∀b,H'.get q=some b->G.get q=some b)->view G.get 7 s=some (pk (AZ x l)):=λG F=>by
  have:=((u.bm F).out 4).2.1
  rw[ho]at this
  exact this
 have Y : ∀b b',∀q∈U,∀k,H'.get q=some k->((H'.put ⟨0,3,0,0⟩ b).put ⟨0,3,0,0⟩ b').get q=some k:=λb b' q hq k O=>by
  have n1 : ¬q=⟨0,3,0,0⟩:=λe=>m1 (by rw[<-e];exact hq)
  rw[aa.aj,if_neg n1,aa.aj,if_neg n1];exact O
 have V : ∀b,∀q∈U,∀k,H'.get q=some k->(H'.put ⟨0,3,0,0⟩ b).get q=some k:=λb q hq k O=>by
  have n1 : ¬q=⟨0,3,0,0⟩:=λe=>m1 (by rw[<-e];exact hq)
  rw[aa.aj,if_neg n1];exact O
 have Ko:=λb b'=>hv _ (Y b b')
 have Kr:=λb=>hv _ (V b)
 have M:N<=(aY L).length:=by simpa using Ku
 have J : ∀(G:aa)(lf':Int)(K:AV->aa->Prop),Fr G->G.get ⟨0,3,0,0⟩=some ⟨4,[.agg [s,aI st,aI lf',aB false]],false,false⟩->G.get ⟨0,6,0,0⟩=some ⟨4,[.agg [bt,aI 0,aI 0,aB false]],false,false⟩->(∀q∈U,∀b,H'.get q=some b->G.get q=some b) ->
  (∀r' H9 A,Fr H9->eG 2 H9 r' (ck (aY L) N (.agg [aI q,bt])) A->H9.get ⟨0,3,0,0⟩=some ⟨4,[.agg [s,aI st,aI lf',aB false]],false,false⟩->H9.get ⟨0,6,0,0⟩=some ⟨4,[.agg [bt,aI 0,aI 0,aB false]],false,false⟩->(⟨0,3,0,0⟩:Ref) ∉ A->(⟨0,6,0,0⟩:Ref) ∉ A->K (.dsl r' 0 (L.length+1) none) H9) ->
  ga (cB ar 0 (.fn 101) [s,aI N,.aD ⟨0,55,G.gen 0 55,0⟩ 0 1 (some 1)] ((⟨0,55,G.gen 0 55,0⟩,some ⟨2,[.agg [aI q,bt]],true,false⟩) :: G)) K:=by
  intro G lf' K F g1 g2 g3 hK
  have Ks:G.get ⟨0,55,G.gen 0 55,0⟩=none:=jL F
  have C : ∀p k,G.get p=some k->aa.get ((⟨0,55,G.gen 0 55,0⟩,some ⟨2,[.agg [aI q,bt]],true,false⟩) :: G) p=some k:=λp k hp=>by
   rw[aa.bJ,if_neg (λe=>by rw[<-e,Ks]at hp;cases hp)];exact hp
  have t:=(u.bm g3).bm (H':=(⟨0,55,G.gen 0 55,0⟩,some ⟨2,[.agg [aI q,bt]],true,false⟩) :: G) λp hp k O=>C p k O
  refine Hd t (fz:=false) (by rw[aa.bJ,if_pos rfl]) M (by simp;omega) (jr F rfl _) λr' H9 A k1 k2 k3 k4=>?_
  rw[jE]
  have j1:=k4 _ _ m1 (C _ _ g1)
  have j2:=k4 _ _ m2 (C _ _ g2)
  refine hK r' H9 A k1 k2 j1 j2 (λh=>?_) λh=>?_
  ·rcases k3 _ h with h | h
   ·exact m1 h
   ·rw[C _ _ g1]at h;cases h
  ·rcases k3 _ h with h | h
   ·exact m2 h
   ·rw[C _ _ g2]at h;cases h
 have w:(ck (aY L) N (.agg [aI q,bt])).set N (.agg [aI q,.fsl 1 (cR b) none])=aY (L.take N++np q b :: L.drop N):=by
  rw[Bx _ _ M]
  unfold ck aY
  rw[uV,o5,List.map_take,List.map_drop]
  rfl
 have z : ∀h:N<L.length,L[N].pos=q->(aY L)[N]?=some (.agg [aI q,.fsl 1 (cR L[N].bs) none])/\(aY L).set N (.agg [aI q,.fsl 1 (cR b) none])=aY (L.set N (np q b)):=λh hp=>by
  constructor
  ·unfold aY
   rw[fU,bG h]
   show some (A9 L[N])=_
   unfold A9
   rw[hp]
  ·unfold aY
   rw[List.map_set]
   rfl
 by_cases h0:lf>0
 ·have Kt:0<lf:=h0
  rw[if_pos h0]
  have Q:=E _ st (lf - 1) false R
  obtain⟨G,F⟩ : ∃G:aa,(H'.put ⟨0,3,0,0⟩ (some ⟨4,[.agg [s,aI st,aI lf,aB false]],false,false⟩)).put ⟨0,3,0,0⟩ (some ⟨4,[.agg [s,aI st,.v (.int .i64 (lf - 1)),aB false]],false,false⟩)=G:=⟨_,rfl⟩
  have G1:Fr G:=by rw[<-F];exact ke (ke Kn (by rw[b1];rfl) _) (by simp[aa.aj]) _
  have G2:G.get ⟨0,3,0,0⟩=some ⟨4,[.agg [s,aI st,aI (lf - 1),aB false]],false,false⟩:=by rw[<-F];simp[aa.aj]
  have G3:G.get ⟨0,6,0,0⟩=some ⟨4,[.agg [bt,aI 0,aI 0,aB false]],false,false⟩:=by rw[<-F];simp[aa.aj,b2]
  have S : ∀q∈U,∀b,H'.get q=some b->G.get q=some b:=by rw[<-F];exact Y _ _
  have G5:=hv G S
  clear hv Ko Kr Y V
  cases hh:fX L q N
  ·rw[hh]at Q
   have D:=λK=>J G (lf - 1) K G1 G2 G3 S
   clear E J z P u
   simp[eo,aa.aj,qx, *]
   refine D _ λr' H9 A q1 q2 q3 q4 q5 q6=>?_
   have n3 : ∀p∈A,¬p=⟨0,3,0,0⟩:=λp hp e=>q5 (by rw[<-e];exact hp)
   have X:=nJ (N:=N) (st:=st) (lf:=lf - 1) (pos:=q) (c':=bt) (m:=L.length+1) (es2:=aY (L.take N++np q b :: L.drop N)) (r':=r') (H9:=H9.put ⟨0,3,0,0⟩ (some ⟨4,[.agg [.dsl r' 0 (L.length+1) none,aI st,aI (lf - 1),aB false]],false,false⟩)) f (by omega)
    (ke q1 (by rw[q3];rfl) _) (by rw[aa.aj,if_pos rfl]) (by rw[aa.aj,if_neg (by simp)];exact q4) (q2.bm λp hp k O=>by rw[aa.aj,if_neg (n3 p hp)];exact O) q5 q6 (by rw[nW _ _ _ M];simp) (xz _ M) w
   clear q2 q5 q6 n3 w D S
   simp[eo,aa.aj, -iw, *]
   first | done | exact X
  ·rw[hh]at Q
   obtain⟨T,B⟩:=P hh
   obtain⟨I,e2⟩:=z T B
   obtain⟨r',W,t⟩ : ∃r',s = .dsl r' 0 L.length none/\eG 2 G r' (aY L) U:=by
    rcases u.bm S with ⟨_,h,_⟩ | ⟨_,_,h,_⟩ | ⟨r',es,h1,h2,h3,h4,h5,h6⟩
    ·rw[h]at I;cases I
    ·rw[h]at I;cases I
    ·exact⟨r',by rw[h1,h4.len];simp,es,h3,h4,h5,h6⟩
   have X:=nJ (N:=N) (st:=st) (lf:=lf - 1) (pos:=q) (m:=L.length) (r':=r') (H9:=G) f (by omega) G1 (by rw[<-W];exact G2) G3 t m1 m2 (by simp) I e2
   rw[<-W]at X
   clear E J z P u t I e2 B W w S
   simp[eo,aa.aj, -iw, *]
   first | done | exact X
 ·have Kt : ¬0<lf:=h0
  rw[if_neg h0]
  have Q:=E _ st (lf) false R
  obtain⟨G,F⟩ : ∃G:aa,H'.put ⟨0,3,0,0⟩ (some ⟨4,[.agg [s,aI st,aI lf,aB false]],false,false⟩)=G:=⟨_,rfl⟩
  have G1:Fr G:=by rw[<-F];exact ke Kn (by rw[b1];rfl) _
  have G2:G.get ⟨0,3,0,0⟩=some ⟨4,[.agg [s,aI st,aI (lf),aB false]],false,false⟩:=by rw[<-F];simp[aa.aj]
  have G3:G.get ⟨0,6,0,0⟩=some ⟨4,[.agg [bt,aI 0,aI 0,aB false]],false,false⟩:=by rw[<-F];simp[aa.aj,b2]
  have S : ∀q∈U,∀b,H'.get q=some b->G.get q=some b:=by rw[<-F];exact V _
  have G5:=hv G S
  clear hv Ko Kr Y V
  cases hh:fX L q N
  ·rw[hh]at Q
   have D:=λK=>J G (lf) K G1 G2 G3 S
   clear E J z P u
   simp[eo,aa.aj,qx, *]
   refine D _ λr' H9 A q1 q2 q3 q4 q5 q6=>?_
   have n3 : ∀p∈A,¬p=⟨0,3,0,0⟩:=λp hp e=>q5 (by rw[<-e];exact hp)
   have X:=nJ (N:=N) (st:=st) (lf:=lf) (pos:=q) (c':=bt) (m:=L.length+1) (es2:=aY (L.take N++np q b :: L.drop N)) (r':=r') (H9:=H9.put ⟨0,3,0,0⟩ (some ⟨4,[.agg [.dsl r' 0 (L.length+1) none,aI st,aI (lf),aB false]],false,false⟩)) f (by omega)
    (ke q1 (by rw[q3];rfl) _) (by rw[aa.aj,if_pos rfl]) (by rw[aa.aj,if_neg (by simp)];exact q4) (q2.bm λp hp k O=>by rw[aa.aj,if_neg (n3 p hp)];exact O) q5 q6 (by rw[nW _ _ _ M];simp) (xz _ M) w
   clear q2 q5 q6 n3 w D S
   simp[eo,aa.aj, -iw, *]
   first | done | exact X
  ·rw[hh]at Q
   obtain⟨T,B⟩:=P hh
   obtain⟨I,e2⟩:=z T B
   obtain⟨r',W,t⟩ : ∃r',s = .dsl r' 0 L.length none/\eG 2 G r' (aY L) U:=by
    rcases u.bm S with ⟨_,h,_⟩ | ⟨_,_,h,_⟩ | ⟨r',es,h1,h2,h3,h4,h5,h6⟩
    ·rw[h]at I;cases I
    ·rw[h]at I;cases I
    ·exact⟨r',by rw[h1,h4.len];simp,es,h3,h4,h5,h6⟩
   have X:=nJ (N:=N) (st:=st) (lf:=lf) (pos:=q) (m:=L.length) (r':=r') (H9:=G) f (by omega) G1 (by rw[<-W];exact G2) G3 t m1 m2 (by simp) I e2
   rw[<-W]at X
   clear E J z P u t I e2 B W w S
   simp[eo,aa.aj, -iw, *]
   first | done | exact X
end
end
end Go.Proofs.Ytjampffmlnplcaa
namespace Go.Ab
theorem eG.IQ{z:Nat}{H:aa}{r:Ref}{es':List AV}{rs:List Ref}(h:eG z H r es' rs){i j:Nat}{G:List AV}(hi:es'[i]?=some (.agg G)){d:Nat}{l:List AV}{c:Option Nat}(hj:G[j]?=some (.fsl d l c)) :
 ∃es R q,H.get r=some ⟨z,es,false,false⟩/\es.length=es'.length/\es[i]?=some (.agg R)/\R[j]?=some (.aD q 0 l.length c)/\H.get q=some ⟨d,l,true,false⟩/\q∈rs/\q≠r /\
  ∀g:List AV,g.length=l.length->eG z (H.put q (some ⟨d,g,true,false⟩)) r (es'.set i (.agg (G.set j (.fsl d g c)))) rs:=by
 obtain⟨es,h1,h2,M,U⟩:=h
 have T:=pj hi
 have Ko:i<es'.length:=(bL.1 hi).1
 have k:(es'.take i).length=i:=by rw[ik];omega
 generalize es'.take i=A' at *
 generalize es'.drop (i+1)=B' at *
 subst T
 obtain⟨A,C,rfl,hA,Z⟩:=F2.split h2
 match C,Z with
 | x :: B,Z=>
 obtain⟨⟨R,Kn,rfl,e,hX⟩,hB⟩:=Z
 cases e
 have S:A.length=i:=by rw[hA.len,k]
 have X:=pj hj
 have Kp:j<G.length:=(bL.1 hj).1
 have K:(G.take j).length=j:=by rw[ik];omega
 generalize G.take j=Y1 at *
 generalize G.drop (j+1)=Y2 at *
 subst X
 obtain⟨I,X3,rfl,N,F⟩:=F2.split hX
 match X3,F with
 | x0 :: O,F=>
 have L:I.length=j:=by rw[N.len,K]
 obtain⟨Y,W⟩:=F
 rcases Y with ⟨_,hp⟩ | ⟨q,x6,l',c',rfl,e,hq,hz⟩
 ·cases hp
 cases e
 have e1:(A ++ .agg (I ++ .aD q 0 l.length c :: O) :: B).flatMap dE=A.flatMap dE++(I.flatMap eH++(q :: (O.flatMap eH++B.flatMap dE))):=by simp[dE,rh,gz,eH]
 rw[e1]at M
 rw[M]at U
 have E:(r :: (A.flatMap dE++(I.flatMap eH++(q :: (O.flatMap eH++B.flatMap dE))))).Perm (q :: (r :: (A.flatMap dE++(I.flatMap eH++(O.flatMap eH++B.flatMap dE))))):=by
  have:=yt (a:=q) (l₁:=r :: (A.flatMap dE++I.flatMap eH)) (l₂:=O.flatMap eH++B.flatMap dE)
  simpa [om] using this
 have m:=(nc.1 (E.nodup_iff.1 U)).1
 simp only[dg,fc,not_or]at m
 obtain⟨n0,n1,n2,n3,n4⟩:=m
 refine⟨_,_,q,h1,h2.len,by rw[fS (by omega),S,kf];rfl,by rw[fS (by omega),L,kf];rfl,hq,by rw[M];simp,n0,λg V=>?_⟩
 have J : ∀p b,p≠q->H.get p=some b->(H.put q (some ⟨d,g,true,false⟩)).get p=some b:=λp b hp f=>by rw[aa.aj,if_neg hp];exact f
 have P:(A' ++ .agg (Y1 ++ .fsl d l c :: Y2) :: B').set i (.agg ((Y1 ++ .fsl d l c :: Y2).set j (.fsl d g c)))=A' ++ .agg (Y1 ++ .fsl d g c :: Y2) :: B':=by
  rw[tV _ _ (by omega),k,kf,tS,tV _ _ (by omega),K,kf,tS]
 rw[P]
 refine⟨_,J r _ (λe=>n0 e.symm) h1,?_,by rw[e1];exact M,by rw[M];exact U⟩
 refine F2.app (F2.mono (λx w y D=>DE.bm D λp hp b f=>J p b (λe=>n1 (by rw[<-e];exact dt.2 ⟨x,w,hp⟩)) f) hA) ⟨⟨_,_,rfl,rfl,F2.app (F2.mono (λx w y D=>DC.bm D λp hp b f=>J p b (λe=>n2 (by rw[<-e];exact dt.2 ⟨x,w,hp⟩)) f) N) ⟨.inr ⟨q,d,g,c,by rw[V],rfl,by rw[aa.aj,if_pos rfl],hz⟩,F2.mono (λx w y D=>DC.bm D λp hp b f=>J p b (λe=>n3 (by rw[<-e];exact dt.2 ⟨x,w,hp⟩)) f) W⟩⟩,F2.mono (λx w y D=>DE.bm D λp hp b f=>J p b (λe=>n4 (by rw[<-e];exact dt.2 ⟨x,w,hp⟩)) f) hB⟩
end Go.Ab
namespace Go.Proofs.Ytjampffmlnplcaa
open Go.Ab
section
attribute [local simp] cC bV bn bW iv kM bm kp cI bY bX eQ eP aO ej
def HK(H0 H:aa)(rs:List Ref):Prop :=∀q b,q ∉ rs->H0.get q=some b->H.get q=some b
section
variable{s:AV}{rs:List Ref}{st lf:Int}{dd:Bool}{H0:aa}{r1:Ref}{dep n:Nat}{Q:AV->aa->Prop}(u:n<1000000)(o:r1 ∉ rs)
 (t : ∀H,Fr H->HK H0 H rs->Q (.v (.tuple #[])) H)
include u o t
theorem Cs{i:Nat}(hi:i<n)(f : ∀(H:aa)(l:List bK),Fr H->H.get r1=some ⟨4,[a6 s st lf dd],false,false⟩->j5 2 H s (aY l) rs->l.length=n->(∀s∈l,s.bs.length<1000000000)->HK H0 H rs ->
 gm ar Try.f71 (dep+1) cd [(2,aI ((i:Int)+1)),(1,.ptr r1 0 0)] H Q) :
 ∀(m k:Nat)(H:aa)(l:List bK)(F:List UInt8),(∃p,l[i]?=some p/\p.bs=F)->k+m=F.length->Fr H->H.get r1=some ⟨4,[a6 s st lf dd],false,false⟩->j5 2 H s (aY l) rs->l.length=n->(∀s∈l,s.bs.length<1000000000)->HK H0 H rs ->
 gm ar Try.f71 (dep+1) cP [(3,aI k),(2,aI i),(1,.ptr r1 0 0)] H Q:=by
 intro m
 induction m with
 | zero=>
  rintro k H l F ⟨p,hp,rfl⟩ hk hF x hd hl hb hS
  have a:(aY l)[i]?=some (.agg [aI p.pos,.fsl 1 (cR p.bs) none]):=by
   unfold aY;rw[fU,hp];rfl
  have P:=hb p (da hp)
  obtain⟨r,rfl,d⟩ : ∃r,s = .dsl r 0 n none/\eG 2 H r (aY l) rs:=by
   rcases hd with ⟨_,h,_⟩ | ⟨_,_,h,_⟩ | ⟨r',es,x,Z,K,C,G,R⟩
   ·rw[h]at a;cases a
   ·rw[h]at a;cases a
   ·exact⟨r',by rw[x,C.len,jE,hl],es,K,C,G,R⟩
  obtain⟨es,xs,q,g1,Y,N,I,U,J,X,E⟩:=d.IQ a (j:=1) rfl
  have Kn:=f H l hF x hd hl hb hS
  have L:bq es i 1 1 false=some (.aD q 0 p.bs.length none):=by
   rw[sk N I,jh]
  have e3:=IntWalk.i64_in ((i:Int)+1) (by omega)
  obtain rfl:k=p.bs.length:=by omega
  simp only[a6]at x
  clear f E t hS hd d
  refine gf _ _ _ _ _ _ λg=>?_
  simp[ca, *,eg]
  done
 | succ m V=>
  rintro k H l F ⟨p,hp,rfl⟩ hk hF x hd hl hb hS
  have a:(aY l)[i]?=some (.agg [aI p.pos,.fsl 1 (cR p.bs) none]):=by
   unfold aY;rw[fU,hp];rfl
  have P:=hb p (da hp)
  obtain⟨r,rfl,d⟩ : ∃r,s = .dsl r 0 n none/\eG 2 H r (aY l) rs:=by
   rcases hd with ⟨_,h,_⟩ | ⟨_,_,h,_⟩ | ⟨r',es,x,Z,K,C,G,R⟩
   ·rw[h]at a;cases a
   ·rw[h]at a;cases a
   ·exact⟨r',by rw[x,C.len,jE,hl],es,K,C,G,R⟩
  obtain⟨es,xs,q,g1,Y,N,I,U,J,X,E⟩:=d.IQ a (j:=1) rfl
  have L:bq es i 1 1 false=some (.aD q 0 p.bs.length none):=by
   rw[sk N I,jh]
  have T:k<p.bs.length:=by omega
  have e3:=IntWalk.i64_in ((k:Int)+1) (by omega)
  have hw:=qo (m:=p.bs) (i:=k) T (p.bs[k]+1)
  rw[show(a8 (p.bs[k]+1)).cells=[a8 (p.bs[k]+1)] from rfl]at hw
  have D:q≠r1:=λe=>o (by rw[<-e];exact J)
  have z:r1≠q:=λe=>D e.symm
  have w:=E (cR (p.bs.set k (p.bs[k]+1))) (by simp)
  have y:(aY l).set i (.agg ([aI p.pos,.fsl 1 (cR p.bs) none].set 1 (.fsl 1 (cR (p.bs.set k (p.bs[k]+1))) none)))=aY (l.set i ⟨p.pos,p.bs.set k (p.bs[k]+1),p.av⟩):=by
   unfold aY
   rw[List.map_set]
   rfl
  rw[y]at w
  have c:(aY (l.set i ⟨p.pos,p.bs.set k (p.bs[k]+1),p.av⟩)).length=n:=by simp[hl]
  have M:i<l.length:=(bL.1 hp).1
  have A:=w.row (λe=>by rw[e]at c;simp at c;omega)
  rw[c]at A
  have O:=V (k+1) (H.put q (some ⟨1,cR (p.bs.set k (p.bs[k]+1)),true,false⟩)) _ (p.bs.set k (p.bs[k]+1)) ⟨_,by rw[tW M],rfl⟩ (by simp;omega) (ke hF (by rw[U];rfl) _) (by rw[aa.aj,if_neg z];exact x) A (by simp[hl]) (λs hs=>by
   rcases yE hs with h | h
   ·exact hb s h
   ·rw[h];simp;omega) (λp' b B S=>by rw[aa.aj,if_neg (λe=>B (by rw[e];exact J))];exact hS p' b B S)
  rw[show((k+1:Nat):Int)=(k:Int)+1 from by omega]at O
  have x6:(k:Int)<p.bs.length:=by omega
  simp only[a6]at x
  clear f E t hS hd d w y V A c
  refine gf _ _ _ _ _ _ λg=>?_
  generalize cR (p.bs.set k (p.bs[k]+1))=W at *
  simp[ca, *,eg,eo]
  done
theorem A3 : ∀(m i:Nat)(H:aa)(l:List bK),i+m=n->Fr H->H.get r1=some ⟨4,[a6 s st lf dd],false,false⟩->j5 2 H s (aY l) rs->l.length=n->(∀s∈l,s.bs.length<1000000000)->HK H0 H rs ->
 gm ar Try.f71 (dep+1) cd [(2,aI i),(1,.ptr r1 0 0)] H Q:=by
 intro m
 induction m with
 | zero=>
  intro i H l D x q j w C k
  have h:=j.len
  rw[jE,w]at h
  have E:=t H x k
  obtain rfl:i=n:=by omega
  simp only[a6]at q
  clear t j k
  refine gh _ _ _ _ _ λg=>?_
  simp[ca, *,ei]
  done
 | succ m A=>
  intro i H l D x q j w C k
  have h:=j.len
  rw[jE,w]at h
  have y:i<n:=by omega
  have B:(i:Int)<n:=by omega
  obtain⟨p,hp⟩ : ∃p,l[i]?=some p:=⟨_,bG (by omega)⟩
  have z:=Cs (dep:=dep) u o t y (λH l a b c d e f=>by
   have:=A (i+1) H l (by omega) a b c d e f
   rw[show((i+1:Nat):Int)=(i:Int)+1 from by omega]at this
   exact this) p.bs.length 0 H l p.bs ⟨p,hp,rfl⟩ (by omega) x q j w C k
  rw[show((0:Nat):Int)=0 from rfl]at z
  simp only[a6]at q
  clear t j k A
  refine gh _ _ _ _ _ λg=>?_
  simp[ca, *,ei]
  first | done | exact z
end
theorem vq{s:AV}{l:List bK}{rs:List Ref}{st lf:Int}{dd:Bool}{H:aa}{dep:Nat}(i:j5 2 H s (aY l) rs)(C:l.length<1000000)(f : ∀s∈l,s.bs.length<1000000000)(x:Fr H){K:AV->aa->Prop}
 (w : ∀H',Fr H'->HK H H' rs->K (.v (.tuple #[])) H'):ga (cB ar dep (.fn 71) [a6 s st lf dd] H) K:=by
 obtain⟨j,d,z,rfl,A,B⟩ : ∃j d,cB ar dep (.fn 71) [a6 s st lf dd] H=some (j,d)/\j = .v (.tuple #[])/\Fr d/\HK H d rs:=by
  refine mh (fn:=Try.f71) (c:=gK) (by kernel_rfl) (by kernel_rfl) (by kernel_rfl) (by kernel_rfl) (by kernel_rfl) ?_ ?_
  ·obtain⟨r1,o⟩ : ∃r:Ref,r=⟨dep+1,1,H.gen (dep+1) 1,0⟩:=⟨_,rfl⟩
   have u:H.get r1=none:=by rw[o];exact jL x
   have m:r1 ∉ rs:=λh=>by
    obtain⟨b,f⟩:=i.live _ h
    rw[u]at f;cases f
   have k : ∀p b,H.get p=some b->aa.get ((r1,some ⟨4,[a6 s st lf dd],false,false⟩) :: H) p=some b:=λp b hp=>by
    rw[aa.bJ,if_neg (λe=>by rw[<-e,u]at hp;cases hp)];exact hp
   have h:=A3 (st:=st) (lf:=lf) (dd:=dd) (H0:=H) (r1:=r1) (dep:=dep) (n:=l.length) (Q:=λy d=>y = .v (.tuple #[])/\Fr d/\HK H d rs) C m (λd a b=>⟨rfl,a,b⟩) l.length 0 ((r1,some ⟨4,[a6 s st lf dd],false,false⟩) :: H) l (by omega)
    (by rw[o];exact jr x rfl _) (by rw[aa.bJ,if_pos rfl]) (i.bm λp _ b f=>k p b f) rfl f (λq b _ D=>k q b D)
   rw[show((0:Nat):Int)=0 from rfl,o]at h
   simp only[a6]at h
   have E:=gJ i
   clear i k m w
   refine kJ _ _ _ _ λg=>?_
   simp only[a6]
   simp[ca, *,gP]
   first | done | exact h
  ·rfl
 exact vU z (w d A B)
end
section
theorem HE : ∀(l:List bK)(a:Int),dV a (gq l)=dV a l:=by
 intro l
 induction l with
 | nil=>intro a;rfl
 | cons p l b=>
  intro a
  show(!decide (p.pos<=a) && !decide (p.pos>=6146)&&decide (p.bs.length=128)&&dV p.pos (gq l))=_
  rw[b]
  rfl
theorem qd(l:List bK)(st lf:Int)(dd:Bool):mr (gq l) st lf dd=mr l st lf dd:=by
 unfold mr
 rw[HE]
structure Jx (fD fR:FuncId) (argsD argsR:List AV) (ys:AV) (l1:List bK) (y2:AV) (l2:List bK) (st lf:Int) (dd:Bool) (e:Int):Prop where
 d:aN ar fD argsD=some (.tup [a6 ys st lf dd,aI e])
 r:aN env fR argsR=some (.tup [a6 y2 st lf dd,aI e])
 out:tL 2 (aY l1) ys
 few:l1.length<1000000
 short : ∀s∈l1,s.bs.length<1000000000
 sl:Sl 2 (an l2) y2
 ok : ∀s∈l2,dy s
 key:bP l1=bP l2
theorem o4:tL 2 (aY []) bt := .inl ⟨rfl,rfl⟩
theorem nI:Sl 2 (an []) bt := .inl ⟨rfl,rfl⟩
theorem GK(q:Int) : ∀l:List bK,CG (gq l) q=CG l q:=by
 intro l
 induction l with
 | nil=>rfl
 | cons p l a=>
  show(if p.pos<q then CG (gq l) q else if p.pos=q then p.bs else En)=_
  rw[a];rfl
theorem As{l m:List bK}(h:bP l=bP m):l.length=m.length:=by
 have:=congrArg List.length h
 simpa [bP] using this
theorem mi{l m:List bK}{n:Nat}(h:bP l=bP m)(d : ∀s∈m,s.bs.length<n) : ∀s∈l,s.bs.length<n:=by
 intro s g
 have a:(s.pos,s.bs)∈bP l:=tU (f:=λs:bK=>(s.pos,s.bs)) g
 rw[h]at a
 obtain⟨t,b,e⟩:=gy.1 a
 have:t.bs=s.bs:=by injection e
 rw[<-this]
 exact d t b
section
variable{l:List bK}{x:AV}{st lf:Int}{dd:Bool}(i:Sl 2 (an l) x)(c : ∀s∈l,dy s)(j:l.length<=200)(g : ∀s∈l,s.bs.length<1000000000)
include i c j g
theorem zL(n:Int) : ∃o k m p st' lf' dd' e,Jx 54 64 [a6 (jG 2 (an (gq l))) st lf dd,aI n] [a6 x st lf dd,aI n] o k m p st' lf' dd' e:=by
 have b:=Fw (st:=st) (lf:=lf) (dd:=dd) (eT 2 (an (gq l))) (iX l) (by simp;omega) n
 have a:=CA (st:=st) (lf:=lf) (dd:=dd) i c (by omega) n
 rw[qd]at b
 split at b
 ·rename_i h
  rw[if_pos h]at a
  split at b
  ·rename_i d
   rw[if_pos d]at a
   exact⟨_,[],_,[],_,_,_,_,b,a,o4,by simp,by simp,nI,by simp,rfl⟩
  ·rename_i d
   rw[if_neg d]at a
   split at b
   ·rename_i f
    rw[if_pos f]at a
    exact⟨_,[],_,[],_,_,_,_,b,a,o4,by simp,by simp,nI,by simp,rfl⟩
   ·rename_i f
    rw[if_neg f]at a
    exact⟨_,gq l,_,gq l,_,_,_,_,b,a,qS (eT 2 (an (gq l))),by simp;omega,mi (mO l) g,eT _ _,iX l,rfl⟩
 ·rename_i h
  rw[if_neg h]at a
  exact⟨_,[],_,[],_,_,_,_,b,a,o4,by simp,by simp,nI,by simp,rfl⟩
theorem zK(q:Int){I F:AV}{b:List UInt8}(E:Sl 1 (cR b) I)(C:Sl 1 (cR b) F)(m:b.length<1000000000) : ∃N M L J st' lf' dd' e,Jx 55 65 [a6 (jG 2 (an (gq l))) st lf dd,aI q,I] [a6 x st lf dd,aI q,F] N M L J st' lf' dd' e:=by
 by_cases f : ¬(mr l st lf dd=true/\(0<=q/\q<6146)/\b.length=128)
 ·have o:=zE (st:=st) (lf:=lf) (dd:=dd) (q:=q) (eT 2 (an (gq l))) (iX l) (by simp;omega) E (by rw[qd];exact f)
  have t:=wX (st:=st) (lf:=lf) (dd:=dd) (q:=q) i c (by omega) C m f
  rw[qd]at o
  exact⟨_,[],_,[],_,_,_,_,o,t,o4,by simp,by simp,nI,by simp,rfl⟩
 ·obtain⟨z,A,d⟩:=kD.1 f
  have v:mr (gq l) st lf dd=true:=by rw[qd];exact z
  by_cases n:dd=true\/lf=0
  ·have o:=xT (st:=st) (lf:=lf) (dd:=dd) (q:=q) (eT 2 (an (gq l))) (iX l) (by simp;omega) E v A d n
   have t:=vu (st:=st) (lf:=lf) (dd:=dd) (q:=q) i c (by omega) C m z A d n
   exact⟨_,gq l,_,gq l,_,_,_,_,o,t,qS (eT 2 (an (gq l))),by simp;omega,mi (mO l) g,eT _ _,iX l,rfl⟩
  ·have B:dd=false:=by cases dd with | false=>rfl | true=>exact absurd (.inl rfl) n
   subst B
   have u : ¬lf=0:=λe=>n (.inr e)
   have o:=BJ (st:=st) (lf:=lf) (q:=q) (eT 2 (an (gq l))) (iX l) (by simp;omega) E v A d u
   have t:=yX (st:=st) (lf:=lf) (q:=q) i c (by omega) C m z A d u
   have a:bP (Cd (gq l) q b)=bP (fA l q b):=by
    have K:bP (Cc q b (gq l))=bP (Cc q b l):=by
     have : ∀l:List bK,bP (Cc q b (gq l))=bP (Cc q b l):=by
      intro l
      induction l with
      | nil=>rfl
      | cons p l G=>
       show bP (if p.pos<q then AW (EM p) :: Cc q b (gq l) else if p.pos=q then np q b :: kg (gq l) else np q b :: AW (EM p) :: kg (gq l))=bP (if p.pos<q then AW p :: Cc q b l else if p.pos=q then np q b :: kg l else np q b :: AW p :: kg l)
       have y:bP (kg (gq l))=bP (kg l):=by rw[sO,sO,mO]
       split
       ·simp only[bP,o5]at G ⊢
        rw[G];rfl
       ·split
        ·simp only[bP,o5]at y ⊢
         rw[y]
        ·simp only[bP,o5]at y ⊢
         rw[y];rfl
     exact this l
    rw[Gh,K,Di q b l (-1) (iC z)]
   have D:aY (Cd (gq l) q b)≠[]:=by
    intro e
    have H:=As a
    have O:(aY (Cd (gq l) q b)).length=0:=by rw[e];rfl
    rw[jE]at O
    unfold fA at H
    simp at H
    omega
   have w:(Cd (gq l) q b).length<1000000:=by
    rw[As a]
    unfold fA
    have Q:=uZ (λs:bK=>decide (s.pos<q)) l
    have P:=uZ (λs:bK=>decide (q<s.pos)) l
    simp only[iU,kC,uF,sR]
    omega
   have k : ∀s∈fA l q b,s.bs.length<1000000000:=λs h=>by
    unfold fA at h
    rcases fc.1 h with h | h
    ·exact g s (oh.1 h).1
    ·rcases dg.1 h with rfl | h
     ·exact m
     ·exact g s (oh.1 h).1
   exact⟨_,Cd (gq l) q b,_,gq (fA l q b),_,_,_,_,o,t,.inr (.inr ⟨rfl,D⟩),w,mi a k,eT _ _,iX _,by rw[mO];exact a⟩
theorem BL(q:Int) : ∃m f e bs,aN ar 58 [a6 (jG 2 (an (gq l))) st lf dd,aI q]=some (.tup [m,aI e])/\aN env 66 [a6 x st lf dd,aI q]=some (.tup [f,aI e])/\((m=bt/\f=bt/\bs=[])\/(m = .fsl 1 (cR bs) none/\f = .cE 1 (cR bs) none))/\bs.length<1000000000:=by
 have a:=Hy (st:=st) (lf:=lf) (dd:=dd) (q:=q) (eT 2 (an (gq l))) (iX l) (by simp;omega)
 have b:=EL (st:=st) (lf:=lf) (dd:=dd) (q:=q) i c (by omega)
 rw[qd]at a
 split at a
 ·rename_i d
  rw[if_pos d]at b
  split at a
  ·rename_i k
   rw[if_pos k,Jt q l (-1) (iC d)]at b
   rw[GL,GK]at a
   refine⟨_,_,_,_,a,b,.inr ⟨rfl,rfl⟩,?_⟩
   have : ∀l:List bK,(∀s∈l,s.bs.length<1000000000)->(CG l q).length<1000000000:=by
    intro l
    induction l with
    | nil=>intro _;simp[CG,En]
    | cons p l n=>
     intro h
     unfold CG
     split
     ·exact n λs g=>h s (by simp[g])
     ·split
      ·exact h p (by simp)
      ·simp[En]
   exact this l g
  ·rename_i k
   rw[if_neg k]at b
   exact⟨_,_,_,[],a,b,.inl ⟨rfl,rfl,rfl⟩,by simp⟩
 ·rename_i d
  rw[if_neg d]at b
  exact⟨_,_,_,[],a,b,.inl ⟨rfl,rfl,rfl⟩,by simp⟩
end
theorem oP(st lf:Int)(dd:Bool):im st lf dd st lf dd=true:=by simp[im]
end
section
attribute [local simp] cC bV bn bW iv kM bm kp cI bY bX eQ eP aO ej
theorem uM{l:List bK}{y:AV}(h:tL 2 (aY l) y):Sl 2 (an (kg l)) (pk y):=by
 rcases h with ⟨rfl,he⟩ | ⟨rfl,he⟩ | ⟨rfl,he⟩
 ·have:l=[]:=by simpa [aY] using he
  subst this
  exact .inl ⟨rfl,rfl⟩
 ·have:l=[]:=by simpa [aY] using he
  subst this
  exact .inr ⟨some 0,rfl,a7 _⟩
 ·have:pk (.nsl 2 (aY l) none) = .cE 2 (an (kg l)) none:=by
   show AV.cE 2 ((aY l).map sd) none=_
   rw[ug]
  rw[this]
  exact Sl.mk _ _
section
variable{l:List bK}{x:AV}{st lf:Int}{dd:Bool}(c:Sl 2 (an l) x)(a : ∀s∈l,dy s)(f:l.length<=200){e:AV}{b:List UInt8}(d:Sl 1 (cR b) e)
include c a f d
theorem Ft{r5 r11 rp:Ref}{xr:AV}{Q:AV->aa->Prop}(I:r5≠rp)(w:r11≠rp)(t : ∀H,Q (aB true) H) : ∀(m k:Nat)(h:List UInt8)(p:AV)(H:aa),k+m=h.length->h.length<1000000000->Fr H->H.get r5=some ⟨4,[a6 x st lf dd],false,false⟩ ->
 H.get r11=some ⟨4,[a6 (jG 2 (an (gq l))) st lf dd],false,false⟩->((xr=bt/\b=[]) \/∃o fz,xr = .aD o 0 b.length none/\H.get o=some ⟨1,cR b,true,fz⟩/\o≠rp) ->
 ((p=bt/\h=[])\/(p = .aD rp 0 h.length none/\H.get rp=some ⟨1,cR h,true,false⟩)) ->
 gm ar Try.f14 0 cg [(28,aI k),(21,p),(3,e),(12,xr),(5,.ptr r5 0 0),(11,.ptr r11 0 0),(27,aB true),(26,aB true)] H Q:=by
 intro m
 induction m with
 | zero=>
  intro k h p H A q D v n j hp
  have u:=ia (by rfl) (vt (st:=st) (lf:=lf) (dd:=dd) (st':=st) (lf':=lf) (dd':=dd) (eT 2 (an (gq l))) (iX l) c a (by simp[gq];omega))
  rw[mO,oP]at u
  simp at u
  have L:=λg r=>mu d g r
  have N:=(eT 2 (an (gq l))).r
  have M:=c.r
  obtain rfl:k=h.length:=by omega
  simp only[a6]at v n u
  have J:=t H
  clear A t d a
  generalize jG 2 (an (gq l))=O at *
  refine eX _ _ _ _ _ _ _ _ _ _ λg=>?_
  rcases j with ⟨rfl,rfl⟩ | ⟨o,fz,rfl,j,_⟩
  ·rcases hp with ⟨rfl,rfl⟩ | ⟨rfl,hp⟩
   ·simp[ca, *,aW]
    done
   ·simp[ca, *,aW]
    done
  ·rcases hp with ⟨rfl,rfl⟩ | ⟨rfl,hp⟩
   ·simp[ca, *,aW]
    done
   ·simp[ca, *,aW]
    done
 | succ m C=>
  intro k h p H A q D v n j hp
  rcases hp with ⟨rfl,rfl⟩ | ⟨rfl,hp⟩
  ·simp at A
  have B:k<h.length:=by omega
  have E:(k:Int)<h.length:=by omega
  have z:=IntWalk.i64_in ((k:Int)+1) (by omega)
  have G:=qo (m:=h) (i:=k) B (h[k]+1)
  rw[show(a8 (h[k]+1)).cells=[a8 (h[k]+1)] from rfl]at G
  have y:=C (k+1) (h.set k (h[k]+1)) (.aD rp 0 h.length none) (H.put rp (some ⟨1,cR (h.set k (h[k]+1)),true,false⟩)) (by simp;omega) (by simpa using q) (ke D (by rw[hp];rfl) _)
   (by rw[aa.aj,if_neg I];exact v) (by rw[aa.aj,if_neg w];exact n)
   (by
    rcases j with j | ⟨o,fz,F,K,z⟩
    ·exact .inl j
    ·exact .inr ⟨o,fz,F,by rw[aa.aj,if_neg z];exact K,z⟩) (.inr ⟨by simp,by rw[aa.aj,if_pos rfl]⟩)
  rw[show((k+1:Nat):Int)=(k:Int)+1 from by omega]at y
  clear C t j a c d
  refine eX _ _ _ _ _ _ _ _ _ _ λg=>?_
  generalize cR (h.set k (h[k]+1))=W at *
  simp[ca, *,aW,eo]
  done
end
end
section
attribute [local simp] cC bV bn bW iv kM bm kp cI bY bX eQ eP aO ej
def s7(s:AV)(st lf:Int)(dd:Bool):ax:=⟨4,[a6 s st lf dd],false,false⟩
theorem uQ{H:aa}{p:List (Ref × ax)}{c:List mw}(h:k9 H p c){t:Nat}{s:AV}{st lf:Int}{dd:Bool}(n:s.cells=[s]/\s.one=true){K:AV->aa->Prop}
 (o : ∀r H',k9 H' ((r,s7 s st lf dd) :: p) c->(∀q b,H.get q=some b->H'.get q=some b)->K (.ptr r 0 0) H') :
 ga (gx H (⟨0,t,aa.gen H 0 t,0⟩:Ref) (mG env.P (⟨0,t,aa.gen H 0 t,0⟩:Ref) 93)) λv I=>ga (eB env.P I 93 (some v) (some (a6 s st lf dd))) λJ z=>K v z:=by
 have B:H.get ⟨0,t,H.gen 0 t,0⟩=none:=jL h.fr
 have d:=o ⟨0,t,H.gen 0 t,0⟩ ((⟨0,t,H.gen 0 t,0⟩,some (s7 s st lf dd)) :: H) (h.new 0 t _) (λq b g=>by rw[aa.bJ,if_neg (λe=>by rw[<-e,B]at g;cases g)];exact g)
 clear o
 simp only[s7,a6]at d ⊢
 simp[eo,n.1,n.2]
 exact d
theorem IF{H:aa}{B:List (Ref × ax)}{e:List mw}(h:k9 H B e){t:Nat}{E:AV}{b:List UInt8}(u:Sl 1 (cR b) E)(w:b.length<=10000){K:AV->aa->Prop}
 (p : ∀xr H' o,wg false 1 (cR b) xr o->k9 H' (o++B) e->K xr H') :
 ga (eO env.P true H (⟨0,t,aa.gen H 0 t,0⟩:Ref) (some 98) (some 98) (.v (.slice none 0 0)) E) K:=by
 have n:=u.eL
 have g:=u.r
 by_cases d:b=[]
 ·have c:=p bt H [] (.inl ⟨rfl,by rw[d];rfl,rfl⟩) h
  subst d
  clear p
  simp[n,g]
  exact c
 ·have z:cR b≠[]:=by simpa [cR] using d
  have c:=p (.aD ⟨0,t,H.gen 0 t,0⟩ 0 (cR b).length none) ((⟨0,t,H.gen 0 t,0⟩,some ⟨1,cR b,true,false⟩) :: H) _ (.inr ⟨_,rfl,rfl⟩) (h.new 0 t _)
  have q:b.length<=140737488355328:=by omega
  clear p
  rw[jh]at c
  simp[z,q,d,n,g]
  exact c
theorem GH{H:aa}{v:List (Ref × ax)}{d:List mw}(h:k9 H v d){t:Nat}{p:AV}{e:Int}{bs:List UInt8}(k:(p=bt/\bs=[])\/p = .fsl 1 (cR bs) none){o:Option AV}(z:o=some (.tup [p,aI e])){K:AV->aa->Prop}
 (n : ∀q H' g,wg false 1 (cR bs) q g->k9 H' (g++v) d->K (.tup [q,aI e]) H') :
 ga (j4 true H (⟨0,t,aa.gen H 0 t,0⟩:Ref) [] o) K:=by
 subst z
 rcases k with ⟨rfl,rfl⟩ | rfl
 ·have c:=n bt H [] (.inl ⟨rfl,rfl,rfl⟩) h
  clear n
  simp[bn]
  exact c
 ·have c:=n (.aD ⟨0,t,H.gen 0 t,0⟩ 0 (cR bs).length none) ((⟨0,t,H.gen 0 t,0⟩,some ⟨1,cR bs,true,false⟩) :: H) _ (.inr ⟨_,rfl,rfl⟩) (h.new 0 t _)
  clear n
  rw[jh]at c
  simp
  exact c
theorem qN{H:aa}{e:List (Ref × ax)}{c:List mw}(h:k9 H e c)(r:Ref)(s:AV)(st lf:Int)(dd:Bool)(g:(r,s7 s st lf dd)∈e){K:AV->Prop}(d:K (a6 s st lf dd)) :
 fB (jU env.P (aa.get H) 93 (some (.ptr r 0 0))) K:=by
 have:=h.has _ g
 simp only[s7,a6]at this d ⊢
 simp[this]
 exact d
theorem _root_.Go.Ab.Sl.CX{z:Nat}{es:List AV}{x:AV}(h:Sl z es x):x.cells=[x]/\x.one=true:=⟨h.r.2.2.2.1,h.r.2.2.2.2.1⟩
theorem FX{H:aa}{p:List (Ref × ax)}{c:List mw}(h:k9 H p c){t:Nat}{s:AV}{st lf:Int}{dd:Bool}(n:s.cells=[s]/\s.one=true){K:AV->aa->Prop}
 (o : ∀r H',k9 H' ((r,s7 s st lf dd) :: p) c->(∀q b,H.get q=some b->H'.get q=some b)->K (.ptr r 0 0) H') :
 ga (gx H (⟨0,t,aa.gen H 0 t,0⟩:Ref) (tz env.P (⟨0,t,aa.gen H 0 t,0⟩:Ref) 93 (some (a6 s st lf dd)))) K:=by
 have v:H.get ⟨0,t,H.gen 0 t,0⟩=none:=jL h.fr
 have d:=o ⟨0,t,H.gen 0 t,0⟩ ((⟨0,t,H.gen 0 t,0⟩,some (s7 s st lf dd)) :: H) (h.new 0 t _) (λq b g=>by rw[aa.bJ,if_neg (λe=>by rw[<-e,v]at g;cases g)];exact g)
 clear o
 simp only[s7,a6]at d ⊢
 simp[n.1,n.2]
 exact d
theorem DN{fz:Bool}{b:List UInt8}{x:AV}{d e:List (Ref × ax)}{H:aa}{c:List mw}(h:wg fz 1 (cR b) x d)(g:k9 H e c)(j : ∀p∈d,p∈e)(r:Ref):bI env.P H.get r 98 9 (some x)=some (sB b,[]):=by
 rcases h with ⟨rfl,h,rfl⟩ | ⟨q,rfl,rfl⟩
 ·have:b=[]:=by simpa [cR] using h
  subst this
  simp
 ·have:=g.has (q,⟨1,cR b,true,fz⟩) (j _ (by simp))
  simp only at this
  simp[this]
theorem nO{l m:List bK}{x y:AV}(i:Sl 2 (an l) x)(a : ∀s∈l,dy s)(k:Sl 2 (an m) y)(f : ∀s∈m,dy s)(F:l.length<1000000)(c:bP l=bP m)(st lf:Int)(dd:Bool):aN ar 62 [a6 x st lf dd,a6 y st lf dd]=some (aB true):=by
 have:=ia (by rfl) (vt (st:=st) (lf:=lf) (dd:=dd) (st':=st) (lf':=lf) (dd':=dd) i a k f F)
 rw[c,oP]at this
 simpa using this
theorem sh{H:aa}{s:AV}{es':List AV}{d:List Ref}(h:j5 2 H s es' d){y:AV}(e:oS 2 s es'=y):view H.get 7 s=some (pk y)/\ab H.get 7 s=d/\s.cells=[s]/\s.one=true:=by
 obtain⟨n,c,g,o⟩:=h.out 4
 rw[e]at c
 exact⟨c,g,gJ h⟩
section
variable{l:List bK}{x:AV}{st lf:Int}{dd:Bool}(i:Sl 2 (an l) x)(a : ∀s∈l,dy s)(F:l.length<=200)(j : ∀s∈l,s.bs.length<1000000000){E:AV}{b:List UInt8}(u:Sl 1 (cR b) E)(w:b.length<=10000)
 {m:List bK} {y:AV} {C D:Int} {A:Bool} (k:Sl 2 (an m) y) (f : ∀s∈m,dy s) (G:m.length<=200)
include i a F j u w k f G
theorem Fu(q n:Int)(KL:aN ar 61 [a6 x st lf dd]=some (aB false))(KV:aN ar 61 [a6 y C D A]=some (aB false)) :
 aN ar 14 [a6 x st lf dd,a6 y C D A,aI q,E,aI n]=some (aB true):=by
 refine iA (fn:=Try.f14) (c:=bN) rfl (by kernel_rfl) (by kernel_rfl) (by kernel_rfl) (by kernel_rfl) ?_;refine cF _ _ _ _ _ _ _ λg=>?_
 have Ko:=ia (by rfl) (qV (st:=st) (lf:=lf) (dd:=dd) i a (by omega) j)
 have K3:=i.r
 have K7:=k.r
 have K8:=u.r
 have K6:=u.eL
 have K4 : ¬(10000:Int)<b.length:=by omega
 have I:Sl 2 (an (gq l)) (jG 2 (an (gq l))):=eT 2 _
 obtain⟨yS,KC,KX,K5,R,S,U,eS,K⟩:=zL (st:=st) (lf:=lf) (dd:=dd) i a F j n
 have Ky:=λ(vr:AV)(KU:Sl 1 (cR b) vr)=>zK (st:=st) (lf:=lf) (dd:=dd) i a F j q KU u (by omega)
 obtain⟨yp,yq,eR,bs,hR,T,X,KM⟩:=BL (st:=st) (lf:=lf) (dd:=dd) i a F j q
 have Kr:=DL (st:=st) (lf:=lf) (dd:=dd) I (iX l) (mi (mO l) j) (by simp[gq];omega)
 have Z:=ia (by rfl) (vv (st:=st) (lf:=lf) (dd:=dd) I (iX l) (by simp[gq];omega))
 have KP:=ia (by rfl) (CB (st:=st) (lf:=lf) (dd:=dd) i a (by omega))
 have hT:=λ(Q:AV->aa->Prop) r5 r11 xr rp n5 n11 hQ xp H=>Ft (st:=st) (lf:=lf) (dd:=dd) i a F u (r5:=r5) (r11:=r11) (rp:=rp) (xr:=xr) (Q:=Q) n5 n11 hQ bs.length 0 bs xp H (by omega) KM
 generalize jG 2 (an (gq l))=O at *
 have K2:=I.r
 have KZ:=K.sl.r
 have KN:(yp=bt/\bs=[])\/yp = .fsl 1 (cR bs) none:=X.elim (λh => .inl ⟨h.1,h.2.2⟩) λh => .inr h.1
 have Kz:Sl 1 (cR bs) yq:=X.elim (λh => .inl ⟨h.2.1,by rw[h.2.2];rfl⟩) λh=>by rw[h.2];exact Sl.mk _ _
 have K1:=Kz.r
 clear X
 have Kw:=ia (by rfl) K.r
 replace T:=ia (by rfl) T
 simp only[a6]at KL KV Ko Kw T Z KP
 rw[qd]at Z
 unfold bO
 refine FX k9.nil i.CX λr5 H o t=>?_
 clear t
 refine FX o k.CX λr6 H o t=>?_
 clear t
 refine qN o r5 x st lf dd (by simp) ?_
 simp only[a6]
 simp[ca, *, -fF]
 refine qN o r6 y C D A (by simp) ?_
 simp only[a6]
 simp[ca, *, -fF]
 refine qN o r5 x st lf dd (by simp) ?_
 simp only[a6]
 simp[ca, *, -fF]
 refine uQ o I.CX λr11 H o t=>?_
 clear t
 refine IF o u w λxr H KQ v o=>?_
 obtain⟨yW,Kn,KR,K9,L,N,P,eW,J⟩:=Ky _ v.sl
 have Kv:=ia (by rfl) J.r
 have K0:=J.sl.r
 clear Ky
 simp only[a6]at Kv
 refine qN o r11 O st lf dd (by simp) ?_
 simp only[a6]
 simp[ca, *, -fF]
 refine o.call ⟨_,_,rfl⟩ (z:=2) (by decide) (by simp) (by simp) (mk:=λs => .tup [a6 s R S U,aI eS]) K.d (C5 _ _ _ _) K.out (nQ _) λH s1 Ks o hk V KJ=>?_
 clear hk V
 simp[ca, *, -fF]
 refine uQ o (gJ (o.row _ (gu ..))) λKO H o t=>?_
 clear t
 refine qN o r5 x st lf dd (by simp) ?_
 simp only[a6]
 simp[ca, *, -fF]
 refine uQ o K.sl.CX λKT H o t=>?_
 clear t
 refine qN o r11 O st lf dd (by simp) ?_
 replace o:=o.perm (CR _ _ _ _)
 obtain⟨KW,KS,_⟩:=v.seen o (λp hp=>by simp[hp])
 simp only[a6]
 simp[ca, *, -fF]
 refine k9.Jn v o ⟨_,_,rfl⟩ (z:=2) (by decide) (mk:=λs => .tup [a6 s L N P,aI eW]) J.d (C5 _ _ _ _) J.out (nQ _) λH s2 Kp KQ KF v o Kt=>?_
 clear KW KS
 simp[ca, *, -fF]
 refine uQ o (gJ (o.row _ (gu ..))) λx6 H o t=>?_
 clear t
 refine qN o r5 x st lf dd (by simp) ?_
 simp only[a6]
 simp[ca, *, -fF]
 refine uQ o J.sl.CX λKY H o t=>?_
 clear t
 refine qN o r11 O st lf dd (by simp) ?_
 simp only[a6]
 simp[ca, *, -fF]
 refine GH o KN hR λxp H La hp o=>?_
 simp[ca, *, -fF]
 refine qN o r5 x st lf dd (by simp) ?_
 simp only[a6]
 simp[ca, *, -fF]
 refine qN o r11 O st lf dd (by simp) ?_
 simp only[a6]
 simp[ca, *, -fF]
 refine o.call ⟨_,_,rfl⟩ (z:=2) (refs:=[]) (by decide) (by simp) (by simp) (mk:=λs=>a6 s st lf dd) (n:=4) Kr (C6 st lf dd) (qS I) (nQ _) λH s3 KE o hk V KI=>?_
 clear hk V
 refine uQ o (gJ (o.row _ (gu ..))) λKq H o t=>?_
 clear t
 have f5:=o.has (r5,s7 x st lf dd) (by simp)
 have f6:=o.has (r6,s7 y C D A) (by simp)
 have KB:=o.has (r11,s7 O st lf dd) (by simp)
 have KD:=o.has (KO,s7 s1 R S U) (by simp)
 have KA:=o.has (KT,s7 KX R S U) (by simp)
 have KH:=o.has (x6,s7 s2 L N P) (by simp)
 have Kx:=o.has (KY,s7 KR L N P) (by simp)
 have KG:=o.has (Kq,s7 s3 st lf dd) (by simp)
 have w1:=sh (o.row ⟨2,s1,aY KC,Ks⟩ (by simp)) KJ
 have w2:=sh (o.row ⟨2,s2,aY Kn,Kp⟩ (by simp)) Kt
 have w3:=sh (o.row ⟨2,s3,aY (gq l),KE⟩ (by simp)) KI
 have cp:=DN hp o (λp hp=>by simp[hp])
 have cq:=λg r=>mu Kz g r
 have e1:=nO (uM K.out) (vk _) K.sl K.ok (by simpa using K.few) (by rw[sO];exact K.key) R S U
 have e2:=nO (uM J.out) (vk _) J.sl J.ok (by simpa using J.few) (by rw[sO];exact J.key) L N P
 have e3:=nO (wN I) (vk _) i a (by simp[gq];omega) (by rw[sO,mO]) st lf dd
 have e4:=ia (by rfl) GG
 have e5:=ia (by rfl) GF
 have e6:=nO nI (by simp) nI (by simp) (by simp) rfl 0 (-1) false
 have e7:=ia (by rfl) (Aj (st:=st) (lf:=lf) (dd:=dd) (st':=C) (lf':=D) (dd':=A) I (iX l) k f (by simp[gq];omega))
 have e8:=ia (by rfl) (vt (st:=st) (lf:=lf) (dd:=dd) (st':=C) (lf':=D) (dd':=A) i a k f (by omega))
 have e9:=ia (by rfl) (Aj (st:=st) (lf:=lf) (dd:=dd) (st':=st) (lf':=lf) (dd':=dd) I (iX l) i a (by simp[gq];omega))
 rw[mO]at e7 e9
 rw[oP,decide_eq_true rfl]at e9
 generalize (decide (bP l=bP m)&&im st lf dd C D A)=B at e7 e8
 simp only[s7,a6]at f5 f6 KB KD KA KH Kx KG e1 e2 e3 e4 e5 e6 e7 e8 e9 ⊢
 have q1:=K.few
 have q2:=K.short
 have q3:=J.few
 have q4:=J.short
 have q5:=mi (mO l) j
 have q6:(gq l).length<1000000:=by simp[gq];omega
 clear hR J K Kr Ko Kw T Kv a f KJ Kt KI j
 simp[ca, *]
 clear e1 e2 e3 e4 e5 e6 e7 e8 e9 cp cq w1 w2 w3 f5 f6 KB KD KA KH Kx KG
 replace o:=o.IC (List.reverse_perm _).symm
 simp only[List.reverse_cons,List.reverse_nil,mZ,List.cons_append]at o
 rw[oO]
 refine vq (s:=s1) (o.row ⟨2,s1,aY KC,Ks⟩ (by simp)) q1 q2 o.fr λH hF t=>?_
 replace o:=o.Ct hF t
 clear t
 refine qN o x6 s2 L N P (by simp) ?_
 rw[oO]
 refine vq (o.row ⟨2,s2,aY Kn,Kp⟩ (by simp)) q3 q4 o.fr λH hF t=>?_
 replace o:=o.Ct hF t
 clear t
 refine qN o Kq s3 st lf dd (by simp) ?_
 rw[oO]
 refine vq (o.row ⟨2,s3,aY (gq l),KE⟩ (by simp)) q6 q5 o.fr λH hF t=>?_
 replace o:=o.Ct hF t
 clear t
 have g5:=o.has (r5,s7 x st lf dd) (by simp)
 have M:=o.has (r11,s7 O st lf dd) (by simp)
 rcases hp with ⟨rfl,Ku,rfl⟩ | ⟨rp,rfl,rfl⟩
 ·obtain⟨rp,KK⟩ : ∃rp:Ref,rp=⟨0,999,H.gen 0 999,0⟩:=⟨_,rfl⟩
  have V:H.get rp=none:=by rw[KK];exact jL o.fr
  refine hT _ r5 r11 _ rp (λe=>?_) (λe=>?_) (λH=>?_) bt H o.fr g5 M ?_ (.inl ⟨rfl,by simpa [cR] using Ku⟩)
  ·simp only[e]at g5;rw[V]at g5;cases g5
  ·simp only[e]at M;rw[V]at M;cases M
  ·simp
  ·rcases v with ⟨W,h2,_⟩ | ⟨rr,W,rfl⟩
   ·exact .inl ⟨W,by simpa [cR] using h2⟩
   ·have Y:=o.has (rr,⟨1,cR b,true,KF⟩) (by simp)
    exact .inr ⟨rr,_,by rw[W,jh],Y,λe=>by simp only[e]at Y;rw[V]at Y;cases Y⟩
 ·have gp:=o.has (rp,⟨1,cR bs,true,false⟩) (by simp)
  refine hT _ r5 r11 _ rp (o.ne (b:=s7 x st lf dd) (c:=⟨1,cR bs,true,false⟩) (by simp) (by simp) (by simp[s7])) (o.ne (b:=s7 O st lf dd) (c:=⟨1,cR bs,true,false⟩) (by simp) (by simp) (by simp[s7])) (λH=>by simp) _ H o.fr g5 M ?_ (.inr ⟨by rw[jh],gp⟩)
  rcases v with ⟨W,h2,_⟩ | ⟨rr,W,rfl⟩
  ·exact .inl ⟨W,by simpa [cR] using h2⟩
  ·have Y:=o.has (rr,⟨1,cR b,true,KF⟩) (by simp)
   refine .inr ⟨rr,_,by rw[W,jh],Y,λe=>?_⟩
   have:=o.nd
   simp[e]at this
   done
end
theorem Hx{l:List bK}{x:AV}{st lf:Int}{dd:Bool}(i:Sl 2 (an l) x)(a : ∀s∈l,dy s)(j : ∀s∈l,s.bs.length<1000000000){E:AV}{b:List UInt8}(u:Sl 1 (cR b) E)
 {m:List bK} {y:AV} {C D:Int} {A:Bool} (k:Sl 2 (an m) y) (f : ∀s∈m,dy s) (q n:Int):aN ar 14 [a6 x st lf dd,a6 y C D A,aI q,E,aI n]=some (aB true):=by
 obtain⟨t1,e,z⟩:=Ai (st:=st) (lf:=lf) (dd:=dd) i a
 obtain⟨t2,d,o⟩:=Ai (st:=C) (lf:=D) (dd:=A) k f
 replace e:=ia (by rfl) e
 replace d:=ia (by rfl) d
 have h:=i.r
 have p:=k.r
 have v:=u.r
 cases t1
 ·cases t2
  ·by_cases w:b.length<=10000
   ·exact Fu i a (z rfl) j u w k f (o rfl) q n e d
   ·have t:(10000:Int)<b.length:=by omega
    refine iA (fn:=Try.f14) (c:=bN) rfl (by kernel_rfl) (by kernel_rfl) (by kernel_rfl) (by kernel_rfl) ?_;refine cF _ _ _ _ _ _ _ λg=>?_
    simp only[a6]at e d ⊢
    clear a f j
    simp[ca, *,bO]
  ·refine iA (fn:=Try.f14) (c:=bN) rfl (by kernel_rfl) (by kernel_rfl) (by kernel_rfl) (by kernel_rfl) ?_;refine cF _ _ _ _ _ _ _ λg=>?_
   simp only[a6]at e d ⊢
   clear a f j
   simp[ca, *,bO]
 ·refine iA (fn:=Try.f14) (c:=bN) rfl (by kernel_rfl) (by kernel_rfl) (by kernel_rfl) (by kernel_rfl) ?_;refine cF _ _ _ _ _ _ _ λg=>?_
  simp only[a6]at e d ⊢
  clear a f j
  simp[ca, *,bO]
end
end Go.Proofs.Ytjampffmlnplcaa
namespace Go.Proofs.Ytjampffmlnplcaa.diskTells
open Go.Ab Go.ChangeShapes Go.WideShapes Go.RowKit
theorem Kj(a:List AV)(h:zT ar.P 20 Try.f14.params.toList a)(o : ∀x∈a,kz 1048576 x):aN ar 14 a=some (aB true):=by
 rw[show Try.f14.params.toList=[93,93,3,98,3] from by kernel_rfl]at h
 obtain⟨w,a,rfl,f,h⟩:=mb h
 obtain⟨D,a,rfl,g,h⟩:=mb h
 obtain⟨B,a,rfl,i,h⟩:=mb h
 obtain⟨E,a,rfl,j,h⟩:=mb h
 obtain⟨C,a,rfl,u,h⟩:=mb h
 obtain rfl:=Cw h
 obtain⟨l,y,st,lf,dd,c,e,rfl⟩:=Cy f
 obtain⟨m,z,A,lc,v,d,p,rfl⟩:=Cy g
 obtain⟨q,_,rfl⟩:=Cx i
 obtain⟨b,t⟩:=GC j
 obtain⟨n,_,rfl⟩:=Cx u
 have k:=Cv e c (o (a6 y st lf dd) (by simp))
 exact Hx e c (λs h=>by have:=k s h;omega) t p d q n
def J3:Input:=⟨#[], #[.agg #[.slice none 0 0,.int .i64 0,.int .i64 0,.bool false],.agg #[.slice none 0 0,.int .i64 0,.int .i64 0,.bool false],.int .i64 0,.slice none 0 0,.int .i64 0],[]⟩
theorem lifted(e:Os)(a:e.Started)(H:Type)(enc:TypeId × Value->H)(f:Stop.Interp) :
 ReturnsInHanded {} Try.checked e 14 .any ((Rows.OpenSpec.upto Rows.diskTellsSpec).pre6 enc Try.prog Try.f14 Rows.diskTellsUptoRow.domain false) (((Rows.OpenSpec.upto Rows.diskTellsSpec).at f).post enc Try.prog Try.f14 false true false false):=by
 refine returnsInHanded_of_cond (C:=Try.checked) (s:=Rows.OpenSpec.upto Rows.diskTellsSpec) (k:=Rows.uptoSmall) rfl own a (by kernel_rfl) Try.func14
  (OpenSpec.witness (enc:=enc) (C:=Try.checked) (s:=Rows.OpenSpec.upto Rows.diskTellsSpec) (k:=Rows.uptoSmall) rfl false J3 8 (by kernel_rfl) (by kernel_rfl) (by kernel_rfl)
   (x:=(DataW.whole enc Try.prog (World.plainHolding Try.prog e J3).memory Try.f14.params.toList [] false J3.args.toList 8).get (by kernel_rfl)) (Option.some_get _).symm (by kernel_rfl) (by kernel_rfl)) ?_
 intro W d args ds i b c g _ j _
 exact sy (E:=ar) Ht kids (slices_full_of Try.prog (by kernel_rfl)) (s:=(Rows.OpenSpec.upto Rows.diskTellsSpec).at f) (m:=20) (λt h=>of_decide_eq_true (dh.1 (show Try.f14.params.toList.all (λt=>decide (t<Try.prog.types.size))=true by kernel_rfl) t h)) (by kernel_rfl) rfl
  (λds l=>by match ds,l with | [_,_,_,_,_],_=>rfl) (by kernel_rfl) zI DT Kj W d args ds i b c g (zH j)
theorem jt:Rows.diskTellsUptoRow.holds Try.pinned (Rows.OpenSpec.upto Rows.diskTellsSpec):=
 OpenClaim.holds_of_cond 14 Try.f14 rfl rfl rfl rfl rfl rfl rfl ⟨rfl,rfl,rfl,rfl,rfl⟩ rfl rfl rfl rfl rfl (by kernel_rfl) Try.func14 (by kernel_rfl)
  (of_decide_eq_true (by kernel_rfl)) (by unfold Func.isWrapper;first | (rw[if_pos (by decide +kernel)];kernel_rfl) | (rw[if_neg (by decide +kernel)];exact⟨rfl,rfl⟩))
  (λb a H enc _ c=>lifted b a H enc c)
theorem proved:Rows.DiskTellsUptoSaid:=
 jt
end Go.Proofs.Ytjampffmlnplcaa.diskTells
