/-
  What is granted to a handle that asks: the rules, one by one. No statement of a seat is proved here.
-/
import Derived.Test.YtmkmimgokagimaaGreatLeAdm0
import Derived.Test.YtmkmimgokagimaaGreatLeVc6
import Derived.Test.YtmkmimgokagimaaGreatMOpSame
set_option linter.unusedVariables false
set_option linter.unusedSimpArgs false
set_option linter.unusedSectionVars false
set_option linter.unnecessarySimpa false
set_option maxRecDepth 100000
namespace Go.Proofs.YtmkmimgokagimaaGreat
open Go.Ab
attribute [local simp] bJ bw bt bG bF cL kN bX bx bD cR cQ cr bY bh ct List.take_of_length_le
def fj(e:Int):AV := .agg [aI e,aB false,a8 0,aI 0,a8 0,a8 0,aF 0,a8 0,aI 0,a8 0,aF 0,a8 0,aI 0,aI 0,a8 0,aF 0,a8 0,aI 0,a8 0,aF 0,cp,aI 0,aI 0,a8 0,aF 0,aB false]
theorem zZ(e:Int):bj env 115 [aI e]=some (.fn (.func 175) [] [.iptr 1 [aI e] 0 0]):=by
 refine aG (fn:=Tryz.f115) (c:=zL) rfl (by kernel_rfl) (by kernel_rfl) (by kernel_rfl) (by kernel_rfl) ?_;refine GC _ _ _ fun g=>?_
 simp[ah,ai,ae,af,ab, *,zT]
theorem rN(e:Int):bj env 175 [.iptr 1 [aI e] 0 0]=some (fj e):=by
 refine aG (fn:=Tryz.f175) (c:=w7) rfl (by kernel_rfl) (by kernel_rfl) (by kernel_rfl) (by kernel_rfl) ?_;refine DB _ _ _ fun g=>?_
 unfold fj
 simp[ah,ai,ae,af,ab, *,xk]
theorem JJ:bj env 118 []=some (aB true):=by
 refine aG (fn:=Tryz.f118) (c:=w8) rfl (by kernel_rfl) (by kernel_rfl) (by kernel_rfl) (by kernel_rfl) ?_;refine DC _ _ fun g=>?_
 simp[ah,ai,ae,af,ab, *,xl]
section
variable{wu wq:AV}{us qs1:List Clear}{qs:List bn}(hwu:Sl 3 (ed us) wu)(hwq:Sl 5 (ef qs) wq)
include hwu hwq
theorem Ir(hul:us.length<1000000)(hql:qs.length<1000000)(so:Bool)(su ss sg:Int)(ua:UInt8)(ub:UInt32)(uc ud ue:Int)(qa:UInt8)(qb:UInt32)(qc qd qe:Int)(user:Int)(v1:UInt8)(v2:UInt32):bj env 112 [.agg [aB so,aI su,aI ss,wu,wq,aI sg,a8 ua,aF ub,aI uc,aI ud,aI ue,a8 qa,aF qb,aI qc,aI qd,aI qe],aI user,.agg [a8 v1,aF v2]]=some (aB (decide (nv us qs sg v1=0)&&nQ us user v1 v2)):=by
 have hM:=Ql (gr:=sg) hwu hwq (by omega) (by omega) user v1 v2
 refine aG (fn:=Tryz.f112) (c:=jW) rfl (by kernel_rfl) (by kernel_rfl) (by kernel_rfl) (by kernel_rfl) ?_;refine pE _ _ _ _ _ fun g=>?_
 have r1:=hwu.r
 have r2:=hwq.r
 generalize nQ us user v1 v2=ob at *
 clear hwu hwq
 by_cases hp:nv us qs sg v1=0
 ·rw[hp]at hM
  cases ob<;>simp[ah,ai,ae,af,ab, *,fU,r1,r2,hp]
 ·cases ob<;>simp[ah,ai,ae,af,ab, *,fU,r1,r2,hp]
theorem aan(so:Bool)(su ss sg:Int)(ua:UInt8)(ub:UInt32)(uc ud ue:Int)(qa:UInt8)(qb:UInt32)(qc qd qe:Int)(may:Bool)(user:Int):bj env 114 [.iptr 1 [aB may] 0 0,.iptr 16 [.agg [aB so,aI su,aI ss,wu,wq,aI sg,a8 ua,aF ub,aI uc,aI ud,aI ue,a8 qa,aF qb,aI qc,aI qd,aI qe]] 0 0,.iptr 1 [aI user] 0 0]=some (aB (!may||(so && !decide (su=user)))):=by
 refine aG (fn:=Tryz.f114) (c:=xc) rfl (by kernel_rfl) (by kernel_rfl) (by kernel_rfl) (by kernel_rfl) ?_;refine DG _ _ _ _ _ fun g=>?_
 clear hwu hwq
 cases may<;>cases so<;>by_cases h:su=user<;>simp[ah,ai,ae,af,ab, *,xv,h]
theorem aam(so:Bool)(su ss sg:Int)(ua:UInt8)(ub:UInt32)(uc ud ue:Int)(qa:UInt8)(qb:UInt32)(qc qd qe:Int):bj env 116 [.iptr 16 [.agg [aB so,aI su,aI ss,wu,wq,aI sg,a8 ua,aF ub,aI uc,aI ud,aI ue,a8 qa,aF qb,aI qc,aI qd,aI qe]] 0 0]=some (aB so):=by
 refine aG (fn:=Tryz.f116) (c:=xb) rfl (by kernel_rfl) (by kernel_rfl) (by kernel_rfl) (by kernel_rfl) ?_;refine DF _ _ _ fun g=>?_
 clear hwu hwq
 simp[ah,ai,ae,af,ab, *,xt]
theorem aal(so:Bool)(su ss sg:Int)(ua:UInt8)(ub:UInt32)(uc ud ue:Int)(qa:UInt8)(qb:UInt32)(qc qd qe:Int):bj env 117 [.iptr 16 [.agg [aB so,aI su,aI ss,wu,wq,aI sg,a8 ua,aF ub,aI uc,aI ud,aI ue,a8 qa,aF qb,aI qc,aI qd,aI qe]] 0 0]=some (aB (decide (qc≤uc))):=by
 refine aG (fn:=Tryz.f117) (c:=xa) rfl (by kernel_rfl) (by kernel_rfl) (by kernel_rfl) (by kernel_rfl) ?_;refine DE _ _ _ fun g=>?_
 clear hwu hwq
 simp[ah,ai,ae,af,ab, *,xp]
theorem aah(hul:us.length<1000000)(hql:qs.length<1000000)(so:Bool)(su ss sg:Int)(ua:UInt8)(ub:UInt32)(uc ud ue:Int)(qa:UInt8)(qb:UInt32)(qc qd qe:Int)(fb:UInt8)(fq:UInt32)(kb:UInt8):bj env 122 [.iptr 16 [.agg [aB so,aI su,aI ss,wu,wq,aI sg,a8 ua,aF ub,aI uc,aI ud,aI ue,a8 qa,aF qb,aI qc,aI qd,aI qe]] 0 0,.iptr 3 [.agg [a8 fb,aF fq,a8 kb]] 0 0]=some (aB (!so || !(decide (nv us qs sg fb=0)&&nQ us su fb fq))):=by
 have hM:=Ir hwu hwq hul hql so su ss sg ua ub uc ud ue qa qb qc qd qe su fb fq
 refine aG (fn:=Tryz.f122) (c:=tY) rfl (by kernel_rfl) (by kernel_rfl) (by kernel_rfl) (by kernel_rfl) ?_;refine AK _ _ _ _ fun g=>?_
 have r1:=hwu.r
 have r2:=hwq.r
 generalize (decide (nv us qs sg fb=0)&&nQ us su fb fq)=ob at *
 clear hwu hwq
 cases so<;>cases ob<;>simp[ah,ai,ae,af,ab, *,uG,r1,r2]
section
variable(ba:UInt8)(aO:UInt8)(aN:UInt32)(aT:UInt8)(aV:Int)(aX:UInt8)(aW:UInt32)(aY:UInt8)(aZ:Int)(an:Int)(ay:UInt8)(ax:UInt32)(aw:UInt8)(au:Int)(aA:UInt8)(az:UInt32){x:AV}{al:List Int}(hax:Sl 1 (rows al) x)
include hax
theorem aag(so:Bool)(su ss sg:Int)(ua:UInt8)(ub:UInt32)(uc ud ue:Int)(qa:UInt8)(qb:UInt32)(qc qd qe:Int):bj env 123 [.iptr 17 [.agg [a8 ba,a8 aO,aF aN,a8 aT,aI aV,a8 aX,aF aW,a8 aY,aI aZ,aI an,a8 ay,aF ax,a8 aw,aI au,a8 aA,aF az,x]] 0 0,.iptr 16 [.agg [aB so,aI su,aI ss,wu,wq,aI sg,a8 ua,aF ub,aI uc,aI ud,aI ue,a8 qa,aF qb,aI qc,aI qd,aI qe]] 0 0]=some (aB (decide (aV≤ss))):=by
 refine aG (fn:=Tryz.f123) (c:=tX) rfl (by kernel_rfl) (by kernel_rfl) (by kernel_rfl) (by kernel_rfl) ?_;refine AJ _ _ _ _ fun g=>?_
 clear hwu hwq
 simp[ah,ai,ae,af,ab, *,uF]
theorem aae(so:Bool)(su ss sg:Int)(ua:UInt8)(ub:UInt32)(uc ud ue:Int)(qa:UInt8)(qb:UInt32)(qc qd qe:Int)(hss:IntKind.i64.wrap (ss+1)=ss+1):bj env 125 [.iptr 17 [.agg [a8 ba,a8 aO,aF aN,a8 aT,aI aV,a8 aX,aF aW,a8 aY,aI aZ,aI an,a8 ay,aF ax,a8 aw,aI au,a8 aA,aF az,x]] 0 0,.iptr 16 [.agg [aB so,aI su,aI ss,wu,wq,aI sg,a8 ua,aF ub,aI uc,aI ud,aI ue,a8 qa,aF qb,aI qc,aI qd,aI qe]] 0 0]=some (aB (decide (ss+1<aV))):=by
 refine aG (fn:=Tryz.f125) (c:=tV) rfl (by kernel_rfl) (by kernel_rfl) (by kernel_rfl) (by kernel_rfl) ?_;refine AH _ _ _ _ fun g=>?_
 clear hwu hwq
 simp[ah,ai,ae,af,ab, *,uD]
end
theorem aad(so:Bool)(su ss sg:Int)(ua:UInt8)(ub:UInt32)(uc ud ue:Int)(qa:UInt8)(qb:UInt32)(qc qd qe:Int):bj env 126 [.iptr 16 [.agg [aB so,aI su,aI ss,wu,wq,aI sg,a8 ua,aF ub,aI uc,aI ud,aI ue,a8 qa,aF qb,aI qc,aI qd,aI qe]] 0 0]=some (aB (decide (qd≤ud))):=by
 refine aG (fn:=Tryz.f126) (c:=tU) rfl (by kernel_rfl) (by kernel_rfl) (by kernel_rfl) (by kernel_rfl) ?_;refine AG _ _ _ fun g=>?_
 clear hwu hwq
 simp[ah,ai,ae,af,ab, *,uC]
end
theorem aak(user:Int)(fb:UInt8)(fq:UInt32)(kb:UInt8):bj env 119 [.iptr 1 [aI user] 0 0,.iptr 3 [.agg [a8 fb,aF fq,a8 kb]] 0 0]=some (.agg [aI 0,aB true,a8 1,aI user,a8 0,a8 fb,aF fq,a8 kb,aI 0,a8 0,aF 0,a8 0,aI 0,aI 0,a8 0,aF 0,a8 0,aI 0,a8 0,aF 0,cp,aI 0,aI 0,a8 0,aF 0,aB false]):=by
 refine aG (fn:=Tryz.f119) (c:=w9) rfl (by kernel_rfl) (by kernel_rfl) (by kernel_rfl) (by kernel_rfl) ?_;refine DD _ _ _ _ fun g=>?_
 simp[ah,ai,ae,af,ab, *,xn]
theorem aai(ba:UInt8)(aO:UInt8)(aN:UInt32)(aT:UInt8)(aV:Int)(aX:UInt8)(aW:UInt32)(aY:UInt8)(aZ:Int)(an:Int)(ay:UInt8)(ax:UInt32)(aw:UInt8)(au:Int)(aA:UInt8)(az:UInt32){x:AV}{al:List Int}(hax:Sl 1 (rows al) x)(hal:al.length<1000000)(fb:UInt8)(fq:UInt32)(kb:UInt8):bj env 120 [.iptr 17 [.agg [a8 ba,a8 aO,aF aN,a8 aT,aI aV,a8 aX,aF aW,a8 aY,aI aZ,aI an,a8 ay,aF ax,a8 aw,aI au,a8 aA,aF az,x]] 0 0,.iptr 3 [.agg [a8 fb,aF fq,a8 kb]] 0 0]=some (aB (!decide ((⟨aO,aN,aT⟩:nY)=⟨fb,fq,kb⟩)||decide (-1∈al))):=by
 have hP:=Ht ba aO aN aT aV aX aW aY aZ an ay ax aw au aA az hax (by omega)
 refine aG (fn:=Tryz.f120) (c:=tZ) rfl (by kernel_rfl) (by kernel_rfl) (by kernel_rfl) (by kernel_rfl) ?_;refine AL _ _ _ _ fun g=>?_
 have hhe:decide ((⟨aO,aN,aT⟩:nY)=⟨fb,fq,kb⟩)=(decide (aO=fb)&&decide (aN=fq)&&decide (aT=kb)):=by simp[and_assoc,Bool.and_assoc]
 rw[hhe]
 have hr:=hax.r
 clear hhe
 generalize decide (-1∈al)=pl at *
 clear hax
 by_cases e1:aO=fb
 ·by_cases e2:aN=fq
  ·by_cases e3:aT=kb
   ·subst e1 e2 e3
    cases pl<;>simp[ah,ai,ae,af,ab, *,jK,ke,eE]
   ·simp[ah,ai,ae,af,ab, *,jK,ke,eE,e1,e2,e3]
  ·simp[ah,ai,ae,af,ab, *,jK,ke,eE,e1,e2]
 ·simp[ah,ai,ae,af,ab, *,jK,ke,eE,e1]
section
variable{xu xq:AV}{us:List Clear}{qs:List bn}{gr:Int}(hu:Sl 3 (ed us) xu)(hq:Sl 5 (ef qs) xq)(hul:us.length<1000000)(hql:qs.length<1000000){l:List (fY × AV)}{x1:AV}(hx:Sl 24 (cW l) x1)(hall : ∀p∈l,oK p)
include hu hq hul hql hx hall
def Mw:AV→Int
 | .tup (.v (.int _ n) :: _)=>n
 | _=>0
theorem aaf(fb:UInt8)(fq:UInt32)(kb:UInt8)(ba:UInt8)(aO:UInt8)(aN:UInt32)(aT:UInt8)(aV:Int)(aX:UInt8)(aW:UInt32)(aY:UInt8)(aZ:Int)(an:Int)(ay:UInt8)(ax:UInt32)(aw:UInt8)(au:Int)(aA:UInt8)(az:UInt32){x:AV}{al:List Int}(hax:Sl 1 (rows al) x):bj env 124 [.iptr 3 [.agg [xu,xq,aI gr]] 0 0,.iptr 1 [x1] 0 0,.iptr 3 [.agg [a8 fb,aF fq,a8 kb]] 0 0,.iptr 17 [.agg [a8 ba,a8 aO,aF aN,a8 aT,aI aV,a8 aX,aF aW,a8 aY,aI aZ,aI an,a8 ay,aF ax,a8 aw,aI au,a8 aA,aF az,x]] 0 0]=some (fj (Mw (qR us qs gr l ⟨fb,fq,kb⟩ aV))):=by
 have hC:=VN (gr:=gr) hu hq hul hql hx hall fb fq kb aV
 have hz : ∃z e,qR us qs gr l ⟨fb,fq,kb⟩ aV = .tup [aI z,aI e]:=by
  unfold qR
  split
  ·exact⟨_,_,rfl⟩
  ·split
   ·exact Aj _ _ _
   ·exact⟨_,_,rfl⟩
 obtain⟨z,e,hz⟩:=hz
 rw[hz]at hC ⊢
 have hf:Mw (.tup [aI z,aI e])=z:=rfl
 rw[hf]
 unfold fj
 refine aG (fn:=Tryz.f124) (c:=tW) rfl (by kernel_rfl) (by kernel_rfl) (by kernel_rfl) (by kernel_rfl) ?_;refine AI _ _ _ _ _ _ fun g=>?_
 clear hall hz hf
 simp[ah,ai,ae,af,ab, *,uE,hu.r,hq.r,hx.r,hax.r]
theorem aac(ba:UInt8)(aO:UInt8)(aN:UInt32)(aT:UInt8)(aV:Int)(aX:UInt8)(aW:UInt32)(aY:UInt8)(aZ:Int)(an:Int)(ay:UInt8)(ax:UInt32)(aw:UInt8)(au:Int)(aA:UInt8)(az:UInt32){x:AV}{al:List Int}(hax:Sl 1 (rows al) x)(hal:al.length<1000000){ve:Int}(hv:Ib us qs gr l (⟨ba,⟨aO,aN,aT⟩,aV,⟨⟨⟨aX,aW,aY⟩,aZ⟩,an⟩,⟨⟨ay,ax,aw⟩,au⟩,⟨aA,az⟩,al⟩:bz) = .tup [aI ve,aI 0]):bj env 127 [.iptr 3 [.agg [xu,xq,aI gr]] 0 0,.iptr 1 [x1] 0 0,.iptr 17 [.agg [a8 ba,a8 aO,aF aN,a8 aT,aI aV,a8 aX,aF aW,a8 aY,aI aZ,aI an,a8 ay,aF ax,a8 aw,aI au,a8 aA,aF az,x]] 0 0] =
 some (.agg [aI ve,aB true,a8 2,aI 0,a8 ba,a8 aO,aF aN,a8 aT,aI aV,a8 aX,aF aW,a8 aY,aI aZ,aI an,a8 ay,aF ax,a8 aw,aI au,a8 aA,aF az,mY x,aI ve,aI 0,a8 0,aF 0,aB false]):=by
 have hV:=Oc (gr:=gr) hu hq hul hql hx hall ba aO aN aT aV aX aW aY aZ an ay ax aw au aA az hax hal
 rw[hv]at hV
 obtain⟨y,hy,hys,hT⟩:=Co ba aO aN aT aV aX aW aY aZ an ay ax aw au aA az hax hal
 rw[←hy]
 have hr:=hax.r
 have hyr:=hys.r
 refine aG (fn:=Tryz.f127) (c:=tT) rfl (by kernel_rfl) (by kernel_rfl) (by kernel_rfl) (by kernel_rfl) ?_;refine AF _ _ _ _ _ fun g=>?_
 clear hall hv hax hys hy
 simp[ah,ai,ae,af,ab, *,uB,hu.r,hq.r,hx.r]
end
end Go.Proofs.YtmkmimgokagimaaGreat
namespace Go.Proofs.YtmkmimgokagimaaGreat
open Go.Ab
attribute [local simp] bJ bw bt bG bF cL kN bX bx bD cR cQ cr bY bh ct List.take_of_length_le
@[simp] theorem UK:(AV.v Value.nilFunc).one=true:=id rfl
@[simp] theorem Wj(f:Fn)(a b:List AV):(AV.fn f a b).one=true:=id rfl
section
variable{wu wq:AV}{us:List Clear}{qs:List bn}(hwu:Sl 3 (ed us) wu)(hwq:Sl 5 (ef qs) wq)
include hwu hwq
theorem Qc(so:Bool)(su ss sg:Int)(ua:UInt8)(ub:UInt32)(uc ud ue:Int)(qa:UInt8)(qb:UInt32)(qc qd qe:Int)(may:Bool)(user:Int)(fb:UInt8)(fq:UInt32)(kb:UInt8)(c:Option Nat):bj env 113 [.ck 2 [.agg [.fn (.func 114) [] [.iptr 1 [aB may] 0 0,.iptr 16 [.agg [aB so,aI su,aI ss,wu,wq,aI sg,a8 ua,aF ub,aI uc,aI ud,aI ue,a8 qa,aF qb,aI qc,aI qd,aI qe]] 0 0,.iptr 1 [aI user] 0 0],.fn (.func 175) [] [.iptr 1 [aI 230] 0 0]],.agg [.fn (.func 116) [] [.iptr 16 [.agg [aB so,aI su,aI ss,wu,wq,aI sg,a8 ua,aF ub,aI uc,aI ud,aI ue,a8 qa,aF qb,aI qc,aI qd,aI qe]] 0 0],.fn (.func 175) [] [.iptr 1 [aI 0] 0 0]],.agg [.fn (.func 117) [] [.iptr 16 [.agg [aB so,aI su,aI ss,wu,wq,aI sg,a8 ua,aF ub,aI uc,aI ud,aI ue,a8 qa,aF qb,aI qc,aI qd,aI qe]] 0 0],.fn (.func 175) [] [.iptr 1 [aI 9] 0 0]],.agg [.fn (.func 118) [] [],.fn (.func 119) [] [.iptr 1 [aI user] 0 0,.iptr 3 [.agg [a8 fb,aF fq,a8 kb]] 0 0]]] c] =
 some (if !may||(so && !decide (su=user)) then fj 230 else if so then fj 0 else if qc≤uc then fj 9 else .agg [aI 0,aB true,a8 1,aI user,a8 0,a8 fb,aF fq,a8 kb,aI 0,a8 0,aF 0,a8 0,aI 0,aI 0,a8 0,aF 0,a8 0,aI 0,a8 0,aF 0,cp,aI 0,aI 0,a8 0,aF 0,aB false]):=by
 have h1:=aan hwu hwq so su ss sg ua ub uc ud ue qa qb qc qd qe may user
 have h2:=aam hwu hwq so su ss sg ua ub uc ud ue qa qb qc qd qe
 have h3:=aal hwu hwq so su ss sg ua ub uc ud ue qa qb qc qd qe
 have h4:=aak user fb fq kb
 have t1:=rN 230
 have t2:=rN 0
 have t3:=rN 9
 have hal:=JJ
 have r1:=hwu.r
 have r2:=hwq.r
 clear hwu hwq
 generalize (!may||(so && !decide (su=user)))=b1 at *
 refine aG (fn:=Tryz.f113) (c:=pq) rfl (by kernel_rfl) (by kernel_rfl) (by kernel_rfl) (by kernel_rfl) ?_;refine xJ _ _ _ fun g=>?_
 unfold fj at *
 simp[ah,ai,ae,af,ab, *,sN]
 refine ei _ _ _ _ _ _ fun g=>?_
 cases b1 with
 | true =>
  clear h2 h3 h4
  simp[ah,ai,ae,af,ab, *,bZ,r1,r2]
 | false =>
  simp[ah,ai,ae,af,ab, *,bZ,r1,r2]
  refine ei _ _ _ _ _ _ fun g=>?_
  cases so with
  | true =>
   clear h1 h3 h4
   simp[ah,ai,ae,af,ab, *,bZ,r1,r2]
  | false =>
   simp[ah,ai,ae,af,ab, *,bZ,r1,r2]
   refine ei _ _ _ _ _ _ fun g=>?_
   by_cases e3:qc≤uc
   ·clear h1 h2 h4
    simp[ah,ai,ae,af,ab, *,bZ,r1,r2]
   ·simp[ah,ai,ae,af,ab, *,bZ,r1,r2]
    refine ei _ _ _ _ _ _ fun g=>?_
    clear h1 h2 h3
    simp[ah,ai,ae,af,ab, *,bZ,r1,r2]
end
section
variable{xu xq:AV}{us us':List Clear}{qs:List bn}{gr:Int}(hu:Sl 3 (ed us) xu)(hq:Sl 5 (ef qs) xq)(hul:us.length<1000000)(hql:qs.length<1000000){l:List (fY × AV)}{x1:AV}(hx:Sl 24 (cW l) x1)(hall : ∀p∈l,oK p)
 {wu wq:AV} (hwu:Sl 3 (ed us') wu) (hwq:Sl 5 (ef qs) wq) (hul':us'.length<1000000)
include hu hq hul hql hx hall hwu hwq hul'
theorem Qb(so:Bool)(su ss sg:Int)(ua:UInt8)(ub:UInt32)(uc ud ue:Int)(qa:UInt8)(qb:UInt32)(qc qd qe:Int)(hss:IntKind.i64.wrap (ss+1)=ss+1)(fb:UInt8)(fq:UInt32)(kb:UInt8)(ba:UInt8)(aO:UInt8)(aN:UInt32)(aT:UInt8)(aV:Int)(aX:UInt8)(aW:UInt32)(aY:UInt8)(aZ:Int)(an:Int)(ay:UInt8)(ax:UInt32)(aw:UInt8)(au:Int)(aA:UInt8)(az:UInt32){x:AV}{al:List Int}(hax:Sl 1 (rows al) x)(hal:al.length<1000000){ve:Int}(hv:Ib us qs gr l (⟨ba,⟨aO,aN,aT⟩,aV,⟨⟨⟨aX,aW,aY⟩,aZ⟩,an⟩,⟨⟨ay,ax,aw⟩,au⟩,⟨aA,az⟩,al⟩:bz) = .tup [aI ve,aI 0])(c:Option Nat):bj env 113 [.ck 2 [.agg [.fn (.func 120) [] [.iptr 17 [.agg [a8 ba,a8 aO,aF aN,a8 aT,aI aV,a8 aX,aF aW,a8 aY,aI aZ,aI an,a8 ay,aF ax,a8 aw,aI au,a8 aA,aF az,x]] 0 0,.iptr 3 [.agg [a8 fb,aF fq,a8 kb]] 0 0],.fn (.func 175) [] [.iptr 1 [aI 8] 0 0]],.agg [.fn (.func 122) [] [.iptr 16 [.agg [aB so,aI su,aI ss,wu,wq,aI sg,a8 ua,aF ub,aI uc,aI ud,aI ue,a8 qa,aF qb,aI qc,aI qd,aI qe]] 0 0,.iptr 3 [.agg [a8 fb,aF fq,a8 kb]] 0 0],.fn (.func 175) [] [.iptr 1 [aI 230] 0 0]],.agg [.fn (.func 123) [] [.iptr 17 [.agg [a8 ba,a8 aO,aF aN,a8 aT,aI aV,a8 aX,aF aW,a8 aY,aI aZ,aI an,a8 ay,aF ax,a8 aw,aI au,a8 aA,aF az,x]] 0 0,.iptr 16 [.agg [aB so,aI su,aI ss,wu,wq,aI sg,a8 ua,aF ub,aI uc,aI ud,aI ue,a8 qa,aF qb,aI qc,aI qd,aI qe]] 0 0],.fn (.func 124) [] [.iptr 3 [.agg [xu,xq,aI gr]] 0 0,.iptr 1 [x1] 0 0,.iptr 3 [.agg [a8 fb,aF fq,a8 kb]] 0 0,.iptr 17 [.agg [a8 ba,a8 aO,aF aN,a8 aT,aI aV,a8 aX,aF aW,a8 aY,aI aZ,aI an,a8 ay,aF ax,a8 aw,aI au,a8 aA,aF az,x]] 0 0]],.agg [.fn (.func 125) [] [.iptr 17 [.agg [a8 ba,a8 aO,aF aN,a8 aT,aI aV,a8 aX,aF aW,a8 aY,aI aZ,aI an,a8 ay,aF ax,a8 aw,aI au,a8 aA,aF az,x]] 0 0,.iptr 16 [.agg [aB so,aI su,aI ss,wu,wq,aI sg,a8 ua,aF ub,aI uc,aI ud,aI ue,a8 qa,aF qb,aI qc,aI qd,aI qe]] 0 0],.fn (.func 175) [] [.iptr 1 [aI 231] 0 0]],.agg [.fn (.func 126) [] [.iptr 16 [.agg [aB so,aI su,aI ss,wu,wq,aI sg,a8 ua,aF ub,aI uc,aI ud,aI ue,a8 qa,aF qb,aI qc,aI qd,aI qe]] 0 0],.fn (.func 175) [] [.iptr 1 [aI 9] 0 0]],.agg [.fn (.func 118) [] [],.fn (.func 127) [] [.iptr 3 [.agg [xu,xq,aI gr]] 0 0,.iptr 1 [x1] 0 0,.iptr 17 [.agg [a8 ba,a8 aO,aF aN,a8 aT,aI aV,a8 aX,aF aW,a8 aY,aI aZ,aI an,a8 ay,aF ax,a8 aw,aI au,a8 aA,aF az,x]] 0 0]]] c] =
 some (if !decide ((⟨aO,aN,aT⟩:nY)=⟨fb,fq,kb⟩)||decide (-1∈al) then fj 8 else if !so || !(decide (nv us' qs sg fb=0)&&nQ us' su fb fq) then fj 230 else if aV≤ss then fj (Mw (qR us qs gr l ⟨fb,fq,kb⟩ aV)) else if ss+1<aV then fj 231 else if qd≤ud then fj 9 else .agg [aI ve,aB true,a8 2,aI 0,a8 ba,a8 aO,aF aN,a8 aT,aI aV,a8 aX,aF aW,a8 aY,aI aZ,aI an,a8 ay,aF ax,a8 aw,aI au,a8 aA,aF az,mY x,aI ve,aI 0,a8 0,aF 0,aB false]):=by
 have h1:=aai ba aO aN aT aV aX aW aY aZ an ay ax aw au aA az hax hal fb fq kb
 have h2:=aah hwu hwq hul' hql so su ss sg ua ub uc ud ue qa qb qc qd qe fb fq kb
 have h3:=aag hwu hwq ba aO aN aT aV aX aW aY aZ an ay ax aw au aA az hax so su ss sg ua ub uc ud ue qa qb qc qd qe
 have h4:=aaf (gr:=gr) hu hq hul hql hx hall fb fq kb ba aO aN aT aV aX aW aY aZ an ay ax aw au aA az hax
 have h5:=aae hwu hwq ba aO aN aT aV aX aW aY aZ an ay ax aw au aA az hax so su ss sg ua ub uc ud ue qa qb qc qd qe hss
 have h6:=aad hwu hwq so su ss sg ua ub uc ud ue qa qb qc qd qe
 have h7:=aac (gr:=gr) hu hq hul hql hx hall ba aO aN aT aV aX aW aY aZ an ay ax aw au aA az hax hal hv
 have t1:=rN 8
 have t2:=rN 230
 have t3:=rN 231
 have t4:=rN 9
 have hal':=JJ
 have r1:=hwu.r
 have r2:=hwq.r
 have r3:=hu.r
 have r4:=hq.r
 have r5:=hx.r
 have r6:=hax.r
 obtain⟨y,hy,hys,_⟩:=Co ba aO aN aT aV aX aW aY aZ an ay ax aw au aA az hax hal
 have r7:=hys.r
 rw[hy]at r7
 clear hu hq hx hall hwu hwq hax hys hy hv hss
 generalize (!decide ((⟨aO,aN,aT⟩:nY)=⟨fb,fq,kb⟩)||decide (-1∈al))=b1 at *
 generalize (!so || !(decide (nv us' qs sg fb=0)&&nQ us' su fb fq))=b2 at *
 generalize Mw (qR us qs gr l ⟨fb,fq,kb⟩ aV)=ce at *
 refine aG (fn:=Tryz.f113) (c:=pq) rfl (by kernel_rfl) (by kernel_rfl) (by kernel_rfl) (by kernel_rfl) ?_;refine xJ _ _ _ fun g=>?_
 unfold fj at *
 simp[ah,ai,ae,af,ab, *,sN]
 refine ei _ _ _ _ _ _ fun g=>?_
 cases b1 with
 | true =>
  clear h2 h3 h4 h5 h6 h7
  simp[ah,ai,ae,af,ab, *,bZ]
 | false =>
  simp[ah,ai,ae,af,ab, *,bZ]
  refine ei _ _ _ _ _ _ fun g=>?_
  clear h1
  cases b2 with
  | true =>
   clear h3 h4 h5 h6 h7
   simp[ah,ai,ae,af,ab, *,bZ]
  | false =>
   simp[ah,ai,ae,af,ab, *,bZ]
   refine ei _ _ _ _ _ _ fun g=>?_
   clear h2
   by_cases e3:aV≤ss
   ·clear h5 h6 h7
    simp[ah,ai,ae,af,ab, *,bZ]
   ·simp[ah,ai,ae,af,ab, *,bZ]
    refine ei _ _ _ _ _ _ fun g=>?_
    clear h3 h4
    by_cases e4:ss+1<aV
    ·clear h6 h7
     simp[ah,ai,ae,af,ab, *,bZ]
    ·simp[ah,ai,ae,af,ab, *,bZ]
     refine ei _ _ _ _ _ _ fun g=>?_
     clear h5
     by_cases e5:qd≤ud
     ·clear h7
      simp[ah,ai,ae,af,ab, *,bZ]
     ·simp[ah,ai,ae,af,ab, *,bZ]
      refine ei _ _ _ _ _ _ fun g=>?_
      clear h6
      simp[ah,ai,ae,af,ab, *,bZ]
end
section
variable{xu xq:AV}{us:List Clear}{qs:List bn}{gr:Int}(hu:Sl 3 (ed us) xu)(hq:Sl 5 (ef qs) xq)(hul:us.length<1000000)(hql:qs.length<1000000){l:List (fY × AV)}{x1:AV}(hx:Sl 24 (cW l) x1)(hall : ∀p∈l,oK p)
include hu hq hul hql hx hall
def Jg(s:uY)(wu wq:AV)(sg:Int)(u q:bn):AV := .agg [aB s.o,aI s.u,aI s.s,wu,wq,aI sg,a8 u.lv,aF u.cats,aI u.opens,aI u.ops,aI u.cells,a8 q.lv,aF q.cats,aI q.opens,aI q.ops,aI q.cells]
def R1(us:List Clear)(qs:List bn)(gr:Int)(l:List (fY × AV))(h:nY)(y:AV):Prop:=match nR us qs gr l with
 | none=>y = .tup [Jg ⟨false,0,0⟩ cp cp 0 ⟨0,0,0,0,0⟩ ⟨0,0,0,0,0⟩,aI 8]
 | some b=>if fL h=true then ∃wu wq,Sl 3 (ed b.us) wu∧Sl 5 (ef qs) wq∧y = .tup [Jg (gG (bH h b.ses)) wu wq b.gr (AM b h.lv h.cats) (jO us qs gr h.lv h.cats),aI 0] else y = .tup [Jg ⟨false,0,0⟩ cp cp 0 ⟨0,0,0,0,0⟩ ⟨0,0,0,0,0⟩,aI 8]
theorem LN(fb:UInt8)(fq:UInt32)(kb:UInt8) : ∃y,bj env 111 [.agg [xu,xq,aI gr],x1,.agg [a8 fb,aF fq,a8 kb]]=some y∧R1 us qs gr l ⟨fb,fq,kb⟩ y:=by
 have hS:=Od (gr:=gr) hu hq hul hql hx hall fb fq kb
 obtain⟨yp,hP,hp⟩:=Qk (gr:=gr) hu hq hul hql hx hall
 have hU:=VJ (gr:=gr) hu hq hul hql hx hall fb fq
 have hQ:=Is (gr:=gr) hu hq (by omega) (by omega) fb fq
 have r3:=hu.r
 have r4:=hq.r
 have r5:=hx.r
 unfold N4 at hS
 unfold V7 at hp
 unfold Hj at hU
 unfold R1
 clear hu hq hx hall
 cases ho:nR us qs gr l with
 | none =>
  rw[ho]at hS
  clear hU hp hQ
  refine⟨_,?_,rfl⟩
  unfold Jg
  refine aG (fn:=Tryz.f111) (c:=tS) rfl (by kernel_rfl) (by kernel_rfl) (by kernel_rfl) (by kernel_rfl) ?_;refine xI _ _ _ _ _ fun g=>?_
  dsimp only at hS
  simp[ah,ai,ae,af,ab, *,uA]
 | some b =>
  rw[ho]at hS hp hU
  dsimp only at hS hp hU ⊢
  cases hh:fL ⟨fb,fq,kb⟩ with
  | false =>
   rw[hh]at hS
   clear hU hp hQ
   refine⟨_,?_,rfl⟩
   unfold Jg
   refine aG (fn:=Tryz.f111) (c:=tS) rfl (by kernel_rfl) (by kernel_rfl) (by kernel_rfl) (by kernel_rfl) ?_;refine xI _ _ _ _ _ fun g=>?_
   simp only[Bool.false_eq_true,if_false]at hS
   simp[ah,ai,ae,af,ab, *,uA]
  | true =>
   rw[hh,if_pos rfl]at hS
   have hlv:fb≤15:=by unfold fL at hh;simp at hh;exact hh.1
   rw[if_pos hlv]at hU
   obtain⟨wu,wq,hwu,hwq,rfl⟩:=hp
   refine⟨_,?_,wu,wq,hwu,hwq,rfl⟩
   have r1:=hwu.r
   have r2:=hwq.r
   clear hwu hwq hh
   unfold Jg
   unfold uY.av at hS
   generalize gG (bH ⟨fb,fq,kb⟩ b.ses)=s at *
   generalize AM b fb fq=u at *
   try dsimp only at *
   generalize jO us qs gr fb fq=q at *
   generalize nv us qs gr fb=pe at *
   obtain⟨s1,s2,s3⟩:=s
   obtain⟨u1,u2,u3,u4,u5⟩:=u
   obtain⟨q1,q2,q3,q4,q5⟩:=q
   simp only[bn.enc]at hU hQ
   refine aG (fn:=Tryz.f111) (c:=tS) rfl (by kernel_rfl) (by kernel_rfl) (by kernel_rfl) (by kernel_rfl) ?_;refine xI _ _ _ _ _ fun g=>?_
   simp[ah,ai,ae,af,ab, *,uA]
end
end Go.Proofs.YtmkmimgokagimaaGreat
