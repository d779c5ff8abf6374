/-
  'Rows.GrantTellsSaid': the law's run. No conditions.
-/
import Derived.Test.YtgooemdlilfkmaaGtCore
set_option linter.unusedVariables false
set_option linter.unusedSimpArgs false
set_option linter.unusedSectionVars false
set_option linter.unnecessarySimpa false
set_option maxRecDepth 100000
namespace Go.Proofs.Ytgooemdlilfkmaa
open Go.Ab
attribute [local simp] cA bA gZ own3 m6 cV fB keep thr
section
variable{xu xq x2:AV}{us:List Clear}{qs:List Quota}{gr:Int}{l:List Gr}(hu:Sl 3 (av us) xu)(hq:Sl 5 (ay qs) xq)(hl:Sl 4 (dH l) x2)
include hu hq
theorem rR(hul:us.length≤100)(hql:qs.length≤100)(user:Int)(v:UInt8)(c:UInt32)(ok:Bool) :
 (∃e,limf env 34 [.agg [iw 3 (av us),iw 5 (ay qs),aI gr],.agg [aI user,a8 v,a32 c,aB ok]]=some (.tup [.agg [aNil,aNil,aI 0],aI e])∧limf env 35 [.agg [xu,xq,aI gr],.agg [aI user,a8 v,a32 c,aB ok]]=some (.tup [.agg [aNil,aNil,aI 0],aI e])) ∨
 ∃ua ga wq,us≠[]∧ua.length=us.length∧Sl 5 (ay qs) wq∧limf env 34 [.agg [iw 3 (av us),iw 5 (ay qs),aI gr],.agg [aI user,a8 v,a32 c,aB ok]]=some (.tup [.agg [.fsl 3 (av ua) none,outA 5 (ay qs),aI ga],aI 0]) ∧
  limf env 35 [.agg [xu,xq,aI gr],.agg [aI user,a8 v,a32 c,aB ok]]=some (.tup [.agg [.isl 3 (av ua) none,wq,aI ga],aI 0]):=by
 have vu:=ia 3 (av us)
 have vq:=ia 5 (ay qs)
 by_cases he:ch us qs gr user v c ok=0
 ·obtain⟨hm,_,h0,h1,_⟩:=ju he
  refine .inr ⟨us.set user.toNat ⟨v,c,ok⟩,_,_,by rintro rfl;simp at h1;omega,by simp,vq,?_,tx (gr:=gr) hu hq (by omega) (by omega) user v c ok he⟩
  have:=pN (gr:=gr) vu vq (by omega) (by omega) user v c ok he
  rw[j1]at this
  exact this
 ·exact .inl ⟨_,pO (gr:=gr) vu vq (by omega) (by omega) user v c ok he,tw (gr:=gr) hu hq (by omega) (by omega) user v c ok he⟩
include hl
theorem uE(hul:us.length≤100)(hql:qs.length≤100)(hg:mayB us qs gr=false∨(2048:Int)<l.length) :
 ∃h,limf env 36 [.agg [iw 3 (av us),iw 5 (ay qs),aI gr],x2]=some (.tup [.agg [aNil,aNil,aI 0],aNil,aI h])∧limf env 37 [.agg [xu,xq,aI gr],x2]=some (.tup [.agg [aNil,aNil,aI 0],aNil,aI h]):=by
 have vu:=ia 3 (av us)
 have vq:=ia 5 (ay qs)
 cases hm:mayB us qs gr with
 | false=>exact⟨_,xH (gr:=gr) vu vq hl (by omega) (by omega) hm,vx (gr:=gr) hu hq hl (by omega) (by omega) hm⟩
 | true =>
  rcases hg with hg | hg
  ·rw[hm]at hg;cases hg
  ·exact⟨_,xG (gr:=gr) vu vq hl (by omega) (by omega) hm hg,vw (gr:=gr) hu hq hl (by omega) (by omega) hm hg⟩
theorem yi(hul:us.length≤100)(hql:qs.length≤100)(hm:mayB us qs gr=true)(hll:l.length≤300) :
 ∃uc gc es cy zu zq zy,uc.length=us.length∧es.length=l.length∧((cy=aNil∧errs es=[])∨cy = .fsl 1 (errs es) none)∧Sl 3 (av uc) zu∧Sl 5 (ay qs) zq∧Sl 1 (errs es) zy ∧
  limf env 36 [.agg [iw 3 (av us),iw 5 (ay qs),aI gr],x2]=some (.tup [.agg [outA 3 (av uc),outA 5 (ay qs),aI gc],cy,aI 0])∧limf env 37 [.agg [xu,xq,aI gr],x2]=some (.tup [.agg [zu,zq,aI gc],zy,aI 0]):=by
 obtain⟨y,h1,cy,hcy,rfl⟩:=xF (gr:=gr) hl (by omega) (by omega) (by omega) hm
 obtain⟨zu,zq,zy,s1,s2,s3,h2⟩:=xD (gr:=gr) hu hq hl (by omega) (by omega) (by omega) hm
 obtain⟨f1,f2⟩:=sb qs l us gr hm
 exact⟨_,_,_,cy,zu,zq,zy,f2,f1,hcy,s1,s2,s3,h1,h2⟩
end
theorem bq:limf env 29 [.agg [aNil,aNil,aI 0],.agg [aNil,aNil,aI 0]]=some (aB true):=by
 have h:=qB (us:=[]) (us':=[]) (qs:=[]) (qs':=[]) (gr:=0) (gr':=0) (xu:=aNil) (xq:=aNil) (yu:=aNil) (yq:=aNil) (.inl ⟨rfl,rfl⟩) (.inl ⟨rfl,rfl⟩) (.inl ⟨rfl,rfl⟩) (.inl ⟨rfl,rfl⟩) (by simp) (by simp)
 simpa using h
theorem dn{xu xq yu yq:AV}{us:List Clear}{qs:List Quota}(gr:Int)(hu:Sl 3 (av us) xu)(hq:Sl 5 (ay qs) xq)(hu':Sl 3 (av us) yu)(hq':Sl 5 (ay qs) yq)(hul:us.length≤100)(hql:qs.length≤100) :
 limf env 29 [.agg [xu,xq,aI gr],.agg [yu,yq,aI gr]]=some (aB true):=by
 have h:=qB (gr:=gr) (gr':=gr) hu hq hu' hq' (by omega) (by omega)
 simpa using h
theorem wx{xu xq x2:AV}{us:List Clear}{qs:List Quota}{gr:Int}{l:List Gr}(hu:Sl 3 (av us) xu)(hq:Sl 5 (ay qs) xq)(hl:Sl 4 (dH l) x2)(user:Int)(v:UInt8)(c:UInt32)(ok:Bool)(hul:us.length≤100)(hql:qs.length≤100)
 (g1 : ¬(300:Int)<l.length) (g3 : ¬(2060:Int)<l.length) :
 limf env 8 [.agg [xu,xq,aI gr],.agg [aI user,a8 v,a32 c,aB ok],x2]=some (aB true):=by
 have hT:=oB (gr:=gr) hu hq (by omega) (by omega)
 have hA:=rR (gr:=gr) hu hq hul hql user v c ok
 cases hm:mayB us qs gr with
 | false =>
  obtain⟨h,r1,r2⟩:=uE (gr:=gr) hu hq hl hul hql (.inl hm)
  by_cases eu:us=[]<;>by_cases eq:qs=[]
  ·subst eu
   subst eq
   simp only[List.map_nil,aQ,a7]at hT
   simp only[List.map_nil,aQ,a7]at r1
   simp only[List.map_nil,aQ,a7]at hA
   rcases hA with ⟨e,a1,a2⟩ | ⟨ua,ga,wq,b0,b1,sq,a1,a2⟩
   ·skip
    exact lz hu hq hl (by first | omega | (simp;done)) (by first | omega | (simp;done)) g1 g3 hT a1 a2 (.inl ⟨rfl,rfl⟩) (.inl ⟨rfl,rfl⟩) bq r1 r2 (.inl ⟨rfl,rfl⟩) (.inl ⟨rfl,rfl⟩) (.inl ⟨rfl,rfl⟩) bq
   ·exact absurd rfl b0
  ·subst eu
   have nq:ay qs≠[]:=by simpa using eq
   simp only[List.map_nil,aQ,a7,aN 5 nq,a6 5 nq]at hT
   simp only[List.map_nil,aQ,a7,aN 5 nq,a6 5 nq]at r1
   simp only[List.map_nil,aQ,a7,aN 5 nq,a6 5 nq]at hA
   rcases hA with ⟨e,a1,a2⟩ | ⟨ua,ga,wq,b0,b1,sq,a1,a2⟩
   ·skip
    exact pl hu hq hl (by first | omega | (simp;done)) (by first | omega | (simp;done)) nq g1 g3 hT a1 a2 (.inl ⟨rfl,rfl⟩) (.inl ⟨rfl,rfl⟩) bq r1 r2 (.inl ⟨rfl,rfl⟩) (.inl ⟨rfl,rfl⟩) (.inl ⟨rfl,rfl⟩) bq
   ·exact absurd rfl b0
  ·have nu:av us≠[]:=by simpa using eu
   subst eq
   simp only[List.map_nil,aQ,a7,aN 3 nu,a6 3 nu]at hT
   simp only[List.map_nil,aQ,a7,aN 3 nu,a6 3 nu]at r1
   simp only[List.map_nil,aQ,a7,aN 3 nu,a6 3 nu]at hA
   rcases hA with ⟨e,a1,a2⟩ | ⟨ua,ga,wq,b0,b1,sq,a1,a2⟩
   ·skip
    exact pg hu hq hl (by first | omega | (simp;done)) (by first | omega | (simp;done)) nu g1 g3 hT a1 a2 (.inl ⟨rfl,rfl⟩) (.inl ⟨rfl,rfl⟩) bq r1 r2 (.inl ⟨rfl,rfl⟩) (.inl ⟨rfl,rfl⟩) (.inl ⟨rfl,rfl⟩) bq
   ·have na:av ua≠[]:=by intro h;have h2:=congrArg List.length h;simp at h2;subst h2;exact b0 (List.length_eq_zero_iff.1 b1.symm)
    exact pb hu hq hl (by first | omega | (simp;done)) (by first | omega | (simp;done)) nu na (by omega) g1 g3 hT a1 a2 (Sl.mk _ _) sq (dn (us:=ua) (qs:=[]) ga (Sl.mk _ _) (.inl ⟨rfl,rfl⟩) (Sl.mk _ _) sq (by omega) (by first | omega | (simp;done))) r1 r2 (.inl ⟨rfl,rfl⟩) (.inl ⟨rfl,rfl⟩) (.inl ⟨rfl,rfl⟩) bq
  ·have nu:av us≠[]:=by simpa using eu
   have nq:ay qs≠[]:=by simpa using eq
   simp only[List.map_nil,aQ,a7,aN 3 nu,a6 3 nu,aN 5 nq,a6 5 nq]at hT
   simp only[List.map_nil,aQ,a7,aN 3 nu,a6 3 nu,aN 5 nq,a6 5 nq]at r1
   simp only[List.map_nil,aQ,a7,aN 3 nu,a6 3 nu,aN 5 nq,a6 5 nq]at hA
   rcases hA with ⟨e,a1,a2⟩ | ⟨ua,ga,wq,b0,b1,sq,a1,a2⟩
   ·skip
    exact o6 hu hq hl (by first | omega | (simp;done)) (by first | omega | (simp;done)) nu nq g1 g3 hT a1 a2 (.inl ⟨rfl,rfl⟩) (.inl ⟨rfl,rfl⟩) bq r1 r2 (.inl ⟨rfl,rfl⟩) (.inl ⟨rfl,rfl⟩) (.inl ⟨rfl,rfl⟩) bq
   ·have na:av ua≠[]:=by intro h;have h2:=congrArg List.length h;simp at h2;subst h2;exact b0 (List.length_eq_zero_iff.1 b1.symm)
    exact o2 hu hq hl (by first | omega | (simp;done)) (by first | omega | (simp;done)) nu nq na (by omega) g1 g3 hT a1 a2 (Sl.mk _ _) sq (dn (us:=ua) (qs:=qs) ga (Sl.mk _ _) (Sl.mk _ _) (Sl.mk _ _) sq (by omega) (by first | omega | (simp;done))) r1 r2 (.inl ⟨rfl,rfl⟩) (.inl ⟨rfl,rfl⟩) (.inl ⟨rfl,rfl⟩) bq
 | true =>
  obtain⟨uc,gc,es,cy,zu,zq,zy,e1,e2,hcy,sc,sd,sy,r1,r2⟩:=yi (gr:=gr) hu hq hl hul hql hm (by omega)
  by_cases eu:us=[]<;>by_cases eq:qs=[]
  ·subst eu
   subst eq
   obtain rfl:uc=[]:=List.length_eq_zero_iff.1 e1
   simp only[List.map_nil,aQ,a7]at hT
   simp only[List.map_nil,aQ,a7]at r1
   simp only[List.map_nil,aQ,a7]at hA
   rcases hA with ⟨e,a1,a2⟩ | ⟨ua,ga,wq,b0,b1,sq,a1,a2⟩
   ·skip
    rcases hcy with ⟨rfl,hz⟩ | rfl
    ·obtain rfl:es=[]:=by simpa using hz
     exact lz hu hq hl (by first | omega | (simp;done)) (by first | omega | (simp;done)) g1 g3 hT a1 a2 (.inl ⟨rfl,rfl⟩) (.inl ⟨rfl,rfl⟩) bq r1 r2 sc sd sy (dn gc (.inl ⟨rfl,rfl⟩) (.inl ⟨rfl,rfl⟩) sc sd (by first | omega | (simp;done)) (by first | omega | (simp;done)))
    ·exact pn hu hq hl (by first | omega | (simp;done)) (by first | omega | (simp;done)) (by omega) g1 g3 hT a1 a2 (.inl ⟨rfl,rfl⟩) (.inl ⟨rfl,rfl⟩) bq r1 r2 sc sd sy (dn gc (.inl ⟨rfl,rfl⟩) (.inl ⟨rfl,rfl⟩) sc sd (by first | omega | (simp;done)) (by first | omega | (simp;done)))
   ·exact absurd rfl b0
  ·subst eu
   have nq:ay qs≠[]:=by simpa using eq
   obtain rfl:uc=[]:=List.length_eq_zero_iff.1 e1
   simp only[List.map_nil,aQ,a7,aN 5 nq,a6 5 nq]at hT
   simp only[List.map_nil,aQ,a7,aN 5 nq,a6 5 nq]at r1
   simp only[List.map_nil,aQ,a7,aN 5 nq,a6 5 nq]at hA
   rcases hA with ⟨e,a1,a2⟩ | ⟨ua,ga,wq,b0,b1,sq,a1,a2⟩
   ·skip
    rcases hcy with ⟨rfl,hz⟩ | rfl
    ·obtain rfl:es=[]:=by simpa using hz
     exact pj hu hq hl (by first | omega | (simp;done)) (by first | omega | (simp;done)) nq g1 g3 hT a1 a2 (.inl ⟨rfl,rfl⟩) (.inl ⟨rfl,rfl⟩) bq r1 r2 sc sd sy (dn gc (.inl ⟨rfl,rfl⟩) (Sl.mk _ _) sc sd (by first | omega | (simp;done)) (by first | omega | (simp;done)))
    ·exact ph hu hq hl (by first | omega | (simp;done)) (by first | omega | (simp;done)) nq (by omega) g1 g3 hT a1 a2 (.inl ⟨rfl,rfl⟩) (.inl ⟨rfl,rfl⟩) bq r1 r2 sc sd sy (dn gc (.inl ⟨rfl,rfl⟩) (Sl.mk _ _) sc sd (by first | omega | (simp;done)) (by first | omega | (simp;done)))
   ·exact absurd rfl b0
  ·have nu:av us≠[]:=by simpa using eu
   subst eq
   have nc:av uc≠[]:=by intro h;have h2:=congrArg List.length h;simp at h2;subst h2;exact eu (List.length_eq_zero_iff.1 e1.symm)
   simp only[List.map_nil,aQ,a7,aN 3 nu,a6 3 nu,aN 3 nc]at hT
   simp only[List.map_nil,aQ,a7,aN 3 nu,a6 3 nu,aN 3 nc]at r1
   simp only[List.map_nil,aQ,a7,aN 3 nu,a6 3 nu,aN 3 nc]at hA
   rcases hA with ⟨e,a1,a2⟩ | ⟨ua,ga,wq,b0,b1,sq,a1,a2⟩
   ·skip
    rcases hcy with ⟨rfl,hz⟩ | rfl
    ·obtain rfl:es=[]:=by simpa using hz
     exact pe hu hq hl (by first | omega | (simp;done)) (by first | omega | (simp;done)) nu nc (by omega) g1 g3 hT a1 a2 (.inl ⟨rfl,rfl⟩) (.inl ⟨rfl,rfl⟩) bq r1 r2 sc sd sy (dn gc (Sl.mk _ _) (.inl ⟨rfl,rfl⟩) sc sd (by first | omega | (simp;done)) (by first | omega | (simp;done)))
    ·exact pd hu hq hl (by first | omega | (simp;done)) (by first | omega | (simp;done)) nu nc (by omega) (by omega) g1 g3 hT a1 a2 (.inl ⟨rfl,rfl⟩) (.inl ⟨rfl,rfl⟩) bq r1 r2 sc sd sy (dn gc (Sl.mk _ _) (.inl ⟨rfl,rfl⟩) sc sd (by first | omega | (simp;done)) (by first | omega | (simp;done)))
   ·have na:av ua≠[]:=by intro h;have h2:=congrArg List.length h;simp at h2;subst h2;exact b0 (List.length_eq_zero_iff.1 b1.symm)
    rcases hcy with ⟨rfl,hz⟩ | rfl
    ·obtain rfl:es=[]:=by simpa using hz
     exact o9 hu hq hl (by first | omega | (simp;done)) (by first | omega | (simp;done)) nu na nc (by omega) (by omega) g1 g3 hT a1 a2 (Sl.mk _ _) sq (dn (us:=ua) (qs:=[]) ga (Sl.mk _ _) (.inl ⟨rfl,rfl⟩) (Sl.mk _ _) sq (by omega) (by first | omega | (simp;done))) r1 r2 sc sd sy (dn gc (Sl.mk _ _) (.inl ⟨rfl,rfl⟩) sc sd (by first | omega | (simp;done)) (by first | omega | (simp;done)))
    ·exact o7 hu hq hl (by first | omega | (simp;done)) (by first | omega | (simp;done)) nu na nc (by omega) (by omega) (by omega) g1 g3 hT a1 a2 (Sl.mk _ _) sq (dn (us:=ua) (qs:=[]) ga (Sl.mk _ _) (.inl ⟨rfl,rfl⟩) (Sl.mk _ _) sq (by omega) (by first | omega | (simp;done))) r1 r2 sc sd sy (dn gc (Sl.mk _ _) (.inl ⟨rfl,rfl⟩) sc sd (by first | omega | (simp;done)) (by first | omega | (simp;done)))
  ·have nu:av us≠[]:=by simpa using eu
   have nq:ay qs≠[]:=by simpa using eq
   have nc:av uc≠[]:=by intro h;have h2:=congrArg List.length h;simp at h2;subst h2;exact eu (List.length_eq_zero_iff.1 e1.symm)
   simp only[List.map_nil,aQ,a7,aN 3 nu,a6 3 nu,aN 5 nq,a6 5 nq,aN 3 nc]at hT
   simp only[List.map_nil,aQ,a7,aN 3 nu,a6 3 nu,aN 5 nq,a6 5 nq,aN 3 nc]at r1
   simp only[List.map_nil,aQ,a7,aN 3 nu,a6 3 nu,aN 5 nq,a6 5 nq,aN 3 nc]at hA
   rcases hA with ⟨e,a1,a2⟩ | ⟨ua,ga,wq,b0,b1,sq,a1,a2⟩
   ·skip
    rcases hcy with ⟨rfl,hz⟩ | rfl
    ·obtain rfl:es=[]:=by simpa using hz
     exact o4 hu hq hl (by first | omega | (simp;done)) (by first | omega | (simp;done)) nu nq nc (by omega) g1 g3 hT a1 a2 (.inl ⟨rfl,rfl⟩) (.inl ⟨rfl,rfl⟩) bq r1 r2 sc sd sy (dn gc (Sl.mk _ _) (Sl.mk _ _) sc sd (by first | omega | (simp;done)) (by first | omega | (simp;done)))
    ·exact o3 hu hq hl (by first | omega | (simp;done)) (by first | omega | (simp;done)) nu nq nc (by omega) (by omega) g1 g3 hT a1 a2 (.inl ⟨rfl,rfl⟩) (.inl ⟨rfl,rfl⟩) bq r1 r2 sc sd sy (dn gc (Sl.mk _ _) (Sl.mk _ _) sc sd (by first | omega | (simp;done)) (by first | omega | (simp;done)))
   ·have na:av ua≠[]:=by intro h;have h2:=congrArg List.length h;simp at h2;subst h2;exact b0 (List.length_eq_zero_iff.1 b1.symm)
    rcases hcy with ⟨rfl,hz⟩ | rfl
    ·obtain rfl:es=[]:=by simpa using hz
     exact oZ hu hq hl (by first | omega | (simp;done)) (by first | omega | (simp;done)) nu nq na nc (by omega) (by omega) g1 g3 hT a1 a2 (Sl.mk _ _) sq (dn (us:=ua) (qs:=qs) ga (Sl.mk _ _) (Sl.mk _ _) (Sl.mk _ _) sq (by omega) (by first | omega | (simp;done))) r1 r2 sc sd sy (dn gc (Sl.mk _ _) (Sl.mk _ _) sc sd (by first | omega | (simp;done)) (by first | omega | (simp;done)))
    ·exact oY hu hq hl (by first | omega | (simp;done)) (by first | omega | (simp;done)) nu nq na nc (by omega) (by omega) (by omega) g1 g3 hT a1 a2 (Sl.mk _ _) sq (dn (us:=ua) (qs:=qs) ga (Sl.mk _ _) (Sl.mk _ _) (Sl.mk _ _) sq (by omega) (by first | omega | (simp;done))) r1 r2 sc sd sy (dn gc (Sl.mk _ _) (Sl.mk _ _) sc sd (by first | omega | (simp;done)) (by first | omega | (simp;done)))
theorem wo{xu xq x2:AV}{us:List Clear}{qs:List Quota}{gr:Int}{l:List Gr}(hu:Sl 3 (av us) xu)(hq:Sl 5 (ay qs) xq)(hl:Sl 4 (dH l) x2)(user:Int)(v:UInt8)(c:UInt32)(ok:Bool)(hul:us.length≤100)(hql:qs.length≤100)
 (g1:(300:Int)<l.length) (g2 : ¬(l.length:Int)≤2048) (g3 : ¬(2060:Int)<l.length) :
 limf env 8 [.agg [xu,xq,aI gr],.agg [aI user,a8 v,a32 c,aB ok],x2]=some (aB true):=by
 have hT:=oB (gr:=gr) hu hq (by omega) (by omega)
 have hA:=rR (gr:=gr) hu hq hul hql user v c ok
 obtain⟨h,r1,r2⟩:=uE (gr:=gr) hu hq hl hul hql (.inr (by omega))
 by_cases eu:us=[]<;>by_cases eq:qs=[]
 ·subst eu
  subst eq
  simp only[List.map_nil,aQ,a7]at hT
  simp only[List.map_nil,aQ,a7]at r1
  simp only[List.map_nil,aQ,a7]at hA
  rcases hA with ⟨e,a1,a2⟩ | ⟨ua,ga,wq,b0,b1,sq,a1,a2⟩
  ·skip
   exact po hu hq hl (by first | omega | (simp;done)) (by first | omega | (simp;done)) g1 g2 g3 hT a1 a2 (.inl ⟨rfl,rfl⟩) (.inl ⟨rfl,rfl⟩) bq r1 r2 (.inl ⟨rfl,rfl⟩) (.inl ⟨rfl,rfl⟩) (.inl ⟨rfl,rfl⟩) bq
  ·exact absurd rfl b0
 ·subst eu
  have nq:ay qs≠[]:=by simpa using eq
  simp only[List.map_nil,aQ,a7,aN 5 nq,a6 5 nq]at hT
  simp only[List.map_nil,aQ,a7,aN 5 nq,a6 5 nq]at r1
  simp only[List.map_nil,aQ,a7,aN 5 nq,a6 5 nq]at hA
  rcases hA with ⟨e,a1,a2⟩ | ⟨ua,ga,wq,b0,b1,sq,a1,a2⟩
  ·skip
   exact pk hu hq hl (by first | omega | (simp;done)) (by first | omega | (simp;done)) nq g1 g2 g3 hT a1 a2 (.inl ⟨rfl,rfl⟩) (.inl ⟨rfl,rfl⟩) bq r1 r2 (.inl ⟨rfl,rfl⟩) (.inl ⟨rfl,rfl⟩) (.inl ⟨rfl,rfl⟩) bq
  ·exact absurd rfl b0
 ·have nu:av us≠[]:=by simpa using eu
  subst eq
  simp only[List.map_nil,aQ,a7,aN 3 nu,a6 3 nu]at hT
  simp only[List.map_nil,aQ,a7,aN 3 nu,a6 3 nu]at r1
  simp only[List.map_nil,aQ,a7,aN 3 nu,a6 3 nu]at hA
  rcases hA with ⟨e,a1,a2⟩ | ⟨ua,ga,wq,b0,b1,sq,a1,a2⟩
  ·skip
   exact pf hu hq hl (by first | omega | (simp;done)) (by first | omega | (simp;done)) nu g1 g2 g3 hT a1 a2 (.inl ⟨rfl,rfl⟩) (.inl ⟨rfl,rfl⟩) bq r1 r2 (.inl ⟨rfl,rfl⟩) (.inl ⟨rfl,rfl⟩) (.inl ⟨rfl,rfl⟩) bq
  ·have na:av ua≠[]:=by intro h;have h2:=congrArg List.length h;simp at h2;subst h2;exact b0 (List.length_eq_zero_iff.1 b1.symm)
   exact pa hu hq hl (by first | omega | (simp;done)) (by first | omega | (simp;done)) nu na (by omega) g1 g2 g3 hT a1 a2 (Sl.mk _ _) sq (dn (us:=ua) (qs:=[]) ga (Sl.mk _ _) (.inl ⟨rfl,rfl⟩) (Sl.mk _ _) sq (by omega) (by first | omega | (simp;done))) r1 r2 (.inl ⟨rfl,rfl⟩) (.inl ⟨rfl,rfl⟩) (.inl ⟨rfl,rfl⟩) bq
 ·have nu:av us≠[]:=by simpa using eu
  have nq:ay qs≠[]:=by simpa using eq
  simp only[List.map_nil,aQ,a7,aN 3 nu,a6 3 nu,aN 5 nq,a6 5 nq]at hT
  simp only[List.map_nil,aQ,a7,aN 3 nu,a6 3 nu,aN 5 nq,a6 5 nq]at r1
  simp only[List.map_nil,aQ,a7,aN 3 nu,a6 3 nu,aN 5 nq,a6 5 nq]at hA
  rcases hA with ⟨e,a1,a2⟩ | ⟨ua,ga,wq,b0,b1,sq,a1,a2⟩
  ·skip
   exact o5 hu hq hl (by first | omega | (simp;done)) (by first | omega | (simp;done)) nu nq g1 g2 g3 hT a1 a2 (.inl ⟨rfl,rfl⟩) (.inl ⟨rfl,rfl⟩) bq r1 r2 (.inl ⟨rfl,rfl⟩) (.inl ⟨rfl,rfl⟩) (.inl ⟨rfl,rfl⟩) bq
  ·have na:av ua≠[]:=by intro h;have h2:=congrArg List.length h;simp at h2;subst h2;exact b0 (List.length_eq_zero_iff.1 b1.symm)
   exact o1 hu hq hl (by first | omega | (simp;done)) (by first | omega | (simp;done)) nu nq na (by omega) g1 g2 g3 hT a1 a2 (Sl.mk _ _) sq (dn (us:=ua) (qs:=qs) ga (Sl.mk _ _) (Sl.mk _ _) (Sl.mk _ _) sq (by omega) (by first | omega | (simp;done))) r1 r2 (.inl ⟨rfl,rfl⟩) (.inl ⟨rfl,rfl⟩) (.inl ⟨rfl,rfl⟩) bq
theorem sI{xu xq x2:AV}{us:List Clear}{qs:List Quota}{gr:Int}{l:List Gr}(hu:Sl 3 (av us) xu)(hq:Sl 5 (ay qs) xq)(hl:Sl 4 (dH l) x2)(user:Int)(v:UInt8)(c:UInt32)(ok:Bool) :
 limf env 8 [.agg [xu,xq,aI gr],.agg [aI user,a8 v,a32 c,aB ok],x2]=some (aB true):=by
 have hG:=cD gr hu hq
 by_cases b1:(100:Int)<us.length∨(100:Int)<qs.length
 ·have hb:(decide (100<(us.length:Int))||decide (100<(qs.length:Int)))=true:=by simpa using b1
  rw[hb]at hG
  clear hb b1
  refine aH (fn:=Try.f8) (c:=ao) rfl (by kernel_rfl) (by kernel_rfl) (by kernel_rfl) (by kernel_rfl) ?_;refine ar _ _ _ _ _ fun g=>?_
  simp[ae,af,ab,ad,aa, *,aq,hu.r,hq.r,hl.r]
 have hb:(decide (100<(us.length:Int))||decide (100<(qs.length:Int)))=false:=by simpa using b1
 by_cases g1:(300:Int)<l.length
 ·by_cases g2:(l.length:Int)≤2048
  ·rw[hb]at hG
   clear hb b1
   refine aH (fn:=Try.f8) (c:=ao) rfl (by kernel_rfl) (by kernel_rfl) (by kernel_rfl) (by kernel_rfl) ?_;refine ar _ _ _ _ _ fun g=>?_
   simp[ae,af,ab,ad,aa, *,aq,hu.r,hq.r,hl.r]
  ·by_cases g3:(2060:Int)<l.length
   ·rw[hb]at hG
    clear hb b1
    refine aH (fn:=Try.f8) (c:=ao) rfl (by kernel_rfl) (by kernel_rfl) (by kernel_rfl) (by kernel_rfl) ?_;refine ar _ _ _ _ _ fun g=>?_
    simp[ae,af,ab,ad,aa, *,aq,hu.r,hq.r,hl.r]
   ·exact wo hu hq hl user v c ok (by omega) (by omega) g1 g2 g3
 ·exact wx hu hq hl user v c ok (by omega) (by omega) g1 (by omega)
end Go.Proofs.Ytgooemdlilfkmaa
