/-
  What is granted to a handle that asks: the rules, one by one. No statement of a seat is proved here.
-/
import Derived.Test.YtmkmimgokagimaaGreatLeAdm0
import Derived.Test.YtmkmimgokagimaaGreatLeVc6
import Derived.Test.YtmkmimgokagimaaGreatMOpSame
set_option linter.unusedVariables false
set_option linter.unusedSimpArgs false
set_option linter.unusedSectionVars false
set_option linter.unnecessarySimpa false
set_option maxRecDepth 100000
namespace Go.Proofs.YtmkmimgokagimaaGreat
open Go.Ab
attribute [local simp] bj aL aF bg bf keep thr bx aT bc da cZ cJ bD aD bM List.take_of_length_le
def b8(e:Int):AV := .agg [aI e,aB false,a8 0,aI 0,a8 0,a8 0,a32 0,a8 0,aI 0,a8 0,a32 0,a8 0,aI 0,aI 0,a8 0,a32 0,a8 0,aI 0,a8 0,a32 0,aNil,aI 0,aI 0,a8 0,a32 0,aB false]
theorem yZ(e:Int):limf env 115 [aI e]=some (.fn (.func 175) [] [.iptr 1 [aI e] 0 0]):=by
 refine aw (fn:=Tryz.f115) (c:=vE) rfl (by kernel_rfl) (by kernel_rfl) (by kernel_rfl) (by kernel_rfl) ?_;refine B5 _ _ _ fun g=>?_
 simp[af,ah,ad,ae,ab, *,vM]
theorem p9(e:Int):limf env 175 [.iptr 1 [aI e] 0 0]=some (b8 e):=by
 refine aw (fn:=Tryz.f175) (c:=rU) rfl (by kernel_rfl) (by kernel_rfl) (by kernel_rfl) (by kernel_rfl) ?_;refine yP _ _ _ fun g=>?_
 unfold b8
 simp[af,ah,ad,ae,ab, *,sC]
theorem FZ:limf env 118 []=some (aB true):=by
 refine aw (fn:=Tryz.f118) (c:=rV) rfl (by kernel_rfl) (by kernel_rfl) (by kernel_rfl) (by kernel_rfl) ?_;refine yQ _ _ fun g=>?_
 simp[af,ah,ad,ae,ab, *,sD]
section
variable{wu wq:AV}{us qs1:List Clear}{qs:List Quota}(hwu:Sl 3 (eN us) wu)(hwq:Sl 5 (eQ qs) wq)
include hwu hwq
theorem IJ(hul:us.length<1000000)(hql:qs.length<1000000)(so:Bool)(su ss sg:Int)(ua:UInt8)(ub:UInt32)(uc ud ue:Int)(qa:UInt8)(qb:UInt32)(qc qd qe:Int)(user:Int)(v1:UInt8)(v2:UInt32):limf env 112 [.agg [aB so,aI su,aI ss,wu,wq,aI sg,a8 ua,a32 ub,aI uc,aI ud,aI ue,a8 qa,a32 qb,aI qc,aI qd,aI qe],aI user,.agg [a8 v1,a32 v2]]=some (aB (decide (o5 us qs sg v1=0)&&nQ us user v1 v2)):=by
 have hM:=MU (gr:=sg) hwu hwq (by omega) (by omega) user v1 v2
 refine aw (fn:=Tryz.f112) (c:=gC) rfl (by kernel_rfl) (by kernel_rfl) (by kernel_rfl) (by kernel_rfl) ?_;refine lW _ _ _ _ _ fun g=>?_
 have r1:=hwu.r
 have r2:=hwq.r
 generalize nQ us user v1 v2=ob at *
 clear hwu hwq
 by_cases hp:o5 us qs sg v1=0
 ·rw[hp]at hM
  cases ob<;>simp[af,ah,ad,ae,ab, *,ed,r1,r2,hp]
 ·cases ob<;>simp[af,ah,ad,ae,ab, *,ed,r1,r2,hp]
theorem Wr(so:Bool)(su ss sg:Int)(ua:UInt8)(ub:UInt32)(uc ud ue:Int)(qa:UInt8)(qb:UInt32)(qc qd qe:Int)(may:Bool)(user:Int):limf env 114 [.iptr 1 [aB may] 0 0,.iptr 16 [.agg [aB so,aI su,aI ss,wu,wq,aI sg,a8 ua,a32 ub,aI uc,aI ud,aI ue,a8 qa,a32 qb,aI qc,aI qd,aI qe]] 0 0,.iptr 1 [aI user] 0 0]=some (aB (!may||(so && !decide (su=user)))):=by
 refine aw (fn:=Tryz.f114) (c:=rZ) rfl (by kernel_rfl) (by kernel_rfl) (by kernel_rfl) (by kernel_rfl) ?_;refine yU _ _ _ _ _ fun g=>?_
 clear hwu hwq
 cases may<;>cases so<;>by_cases h:su=user<;>simp[af,ah,ad,ae,ab, *,sH,h]
theorem Wq(so:Bool)(su ss sg:Int)(ua:UInt8)(ub:UInt32)(uc ud ue:Int)(qa:UInt8)(qb:UInt32)(qc qd qe:Int):limf env 116 [.iptr 16 [.agg [aB so,aI su,aI ss,wu,wq,aI sg,a8 ua,a32 ub,aI uc,aI ud,aI ue,a8 qa,a32 qb,aI qc,aI qd,aI qe]] 0 0]=some (aB so):=by
 refine aw (fn:=Tryz.f116) (c:=rY) rfl (by kernel_rfl) (by kernel_rfl) (by kernel_rfl) (by kernel_rfl) ?_;refine yT _ _ _ fun g=>?_
 clear hwu hwq
 simp[af,ah,ad,ae,ab, *,sG]
theorem Wp(so:Bool)(su ss sg:Int)(ua:UInt8)(ub:UInt32)(uc ud ue:Int)(qa:UInt8)(qb:UInt32)(qc qd qe:Int):limf env 117 [.iptr 16 [.agg [aB so,aI su,aI ss,wu,wq,aI sg,a8 ua,a32 ub,aI uc,aI ud,aI ue,a8 qa,a32 qb,aI qc,aI qd,aI qe]] 0 0]=some (aB (decide (qc≤uc))):=by
 refine aw (fn:=Tryz.f117) (c:=rX) rfl (by kernel_rfl) (by kernel_rfl) (by kernel_rfl) (by kernel_rfl) ?_;refine yS _ _ _ fun g=>?_
 clear hwu hwq
 simp[af,ah,ad,ae,ab, *,sF]
theorem Wl(hul:us.length<1000000)(hql:qs.length<1000000)(so:Bool)(su ss sg:Int)(ua:UInt8)(ub:UInt32)(uc ud ue:Int)(qa:UInt8)(qb:UInt32)(qc qd qe:Int)(h_1:UInt8)(h_2:UInt32)(h_3:UInt8):limf env 122 [.iptr 16 [.agg [aB so,aI su,aI ss,wu,wq,aI sg,a8 ua,a32 ub,aI uc,aI ud,aI ue,a8 qa,a32 qb,aI qc,aI qd,aI qe]] 0 0,.iptr 3 [.agg [a8 h_1,a32 h_2,a8 h_3]] 0 0]=some (aB (!so || !(decide (o5 us qs sg h_1=0)&&nQ us su h_1 h_2))):=by
 have hM:=IJ hwu hwq hul hql so su ss sg ua ub uc ud ue qa qb qc qd qe su h_1 h_2
 refine aw (fn:=Tryz.f122) (c:=pH) rfl (by kernel_rfl) (by kernel_rfl) (by kernel_rfl) (by kernel_rfl) ?_;refine we _ _ _ _ fun g=>?_
 have r1:=hwu.r
 have r2:=hwq.r
 generalize (decide (o5 us qs sg h_1=0)&&nQ us su h_1 h_2)=ob at *
 clear hwu hwq
 cases so<;>cases ob<;>simp[af,ah,ad,ae,ab, *,pY,r1,r2]
section
variable(a_1:UInt8)(a_2:UInt8)(a_3:UInt32)(a_4:UInt8)(a_5:Int)(a_6:UInt8)(a_7:UInt32)(a_8:UInt8)(a_9:Int)(a_10:Int)(a_11:UInt8)(a_12:UInt32)(a_13:UInt8)(a_14:Int)(a_15:UInt8)(a_16:UInt32){x:AV}{al:List Int}(hax:Sl 1 (rows al) x)
include hax
theorem Wk(so:Bool)(su ss sg:Int)(ua:UInt8)(ub:UInt32)(uc ud ue:Int)(qa:UInt8)(qb:UInt32)(qc qd qe:Int):limf env 123 [.iptr 17 [.agg [a8 a_1,a8 a_2,a32 a_3,a8 a_4,aI a_5,a8 a_6,a32 a_7,a8 a_8,aI a_9,aI a_10,a8 a_11,a32 a_12,a8 a_13,aI a_14,a8 a_15,a32 a_16,x]] 0 0,.iptr 16 [.agg [aB so,aI su,aI ss,wu,wq,aI sg,a8 ua,a32 ub,aI uc,aI ud,aI ue,a8 qa,a32 qb,aI qc,aI qd,aI qe]] 0 0]=some (aB (decide (a_5≤ss))):=by
 refine aw (fn:=Tryz.f123) (c:=pG) rfl (by kernel_rfl) (by kernel_rfl) (by kernel_rfl) (by kernel_rfl) ?_;refine wc _ _ _ _ fun g=>?_
 clear hwu hwq
 simp[af,ah,ad,ae,ab, *,pX]
theorem Wi(so:Bool)(su ss sg:Int)(ua:UInt8)(ub:UInt32)(uc ud ue:Int)(qa:UInt8)(qb:UInt32)(qc qd qe:Int)(hss:IntKind.i64.wrap (ss+1)=ss+1):limf env 125 [.iptr 17 [.agg [a8 a_1,a8 a_2,a32 a_3,a8 a_4,aI a_5,a8 a_6,a32 a_7,a8 a_8,aI a_9,aI a_10,a8 a_11,a32 a_12,a8 a_13,aI a_14,a8 a_15,a32 a_16,x]] 0 0,.iptr 16 [.agg [aB so,aI su,aI ss,wu,wq,aI sg,a8 ua,a32 ub,aI uc,aI ud,aI ue,a8 qa,a32 qb,aI qc,aI qd,aI qe]] 0 0]=some (aB (decide (ss+1<a_5))):=by
 refine aw (fn:=Tryz.f125) (c:=pE) rfl (by kernel_rfl) (by kernel_rfl) (by kernel_rfl) (by kernel_rfl) ?_;refine wa _ _ _ _ fun g=>?_
 clear hwu hwq
 simp[af,ah,ad,ae,ab, *,pV]
end
theorem Wh(so:Bool)(su ss sg:Int)(ua:UInt8)(ub:UInt32)(uc ud ue:Int)(qa:UInt8)(qb:UInt32)(qc qd qe:Int):limf env 126 [.iptr 16 [.agg [aB so,aI su,aI ss,wu,wq,aI sg,a8 ua,a32 ub,aI uc,aI ud,aI ue,a8 qa,a32 qb,aI qc,aI qd,aI qe]] 0 0]=some (aB (decide (qd≤ud))):=by
 refine aw (fn:=Tryz.f126) (c:=pD) rfl (by kernel_rfl) (by kernel_rfl) (by kernel_rfl) (by kernel_rfl) ?_;refine vZ _ _ _ fun g=>?_
 clear hwu hwq
 simp[af,ah,ad,ae,ab, *,pU]
end
theorem Wo(user:Int)(h_1:UInt8)(h_2:UInt32)(h_3:UInt8):limf env 119 [.iptr 1 [aI user] 0 0,.iptr 3 [.agg [a8 h_1,a32 h_2,a8 h_3]] 0 0]=some (.agg [aI 0,aB true,a8 1,aI user,a8 0,a8 h_1,a32 h_2,a8 h_3,aI 0,a8 0,a32 0,a8 0,aI 0,aI 0,a8 0,a32 0,a8 0,aI 0,a8 0,a32 0,aNil,aI 0,aI 0,a8 0,a32 0,aB false]):=by
 refine aw (fn:=Tryz.f119) (c:=rW) rfl (by kernel_rfl) (by kernel_rfl) (by kernel_rfl) (by kernel_rfl) ?_;refine yR _ _ _ _ fun g=>?_
 simp[af,ah,ad,ae,ab, *,sE]
theorem Wm(a_1:UInt8)(a_2:UInt8)(a_3:UInt32)(a_4:UInt8)(a_5:Int)(a_6:UInt8)(a_7:UInt32)(a_8:UInt8)(a_9:Int)(a_10:Int)(a_11:UInt8)(a_12:UInt32)(a_13:UInt8)(a_14:Int)(a_15:UInt8)(a_16:UInt32){x:AV}{al:List Int}(hax:Sl 1 (rows al) x)(hal:al.length<1000000)(h_1:UInt8)(h_2:UInt32)(h_3:UInt8):limf env 120 [.iptr 17 [.agg [a8 a_1,a8 a_2,a32 a_3,a8 a_4,aI a_5,a8 a_6,a32 a_7,a8 a_8,aI a_9,aI a_10,a8 a_11,a32 a_12,a8 a_13,aI a_14,a8 a_15,a32 a_16,x]] 0 0,.iptr 3 [.agg [a8 h_1,a32 h_2,a8 h_3]] 0 0]=some (aB (!decide ((⟨a_2,a_3,a_4⟩:Han)=⟨h_1,h_2,h_3⟩)||decide (-1∈al))):=by
 have hP:=Dt a_1 a_2 a_3 a_4 a_5 a_6 a_7 a_8 a_9 a_10 a_11 a_12 a_13 a_14 a_15 a_16 hax (by omega)
 refine aw (fn:=Tryz.f120) (c:=pI) rfl (by kernel_rfl) (by kernel_rfl) (by kernel_rfl) (by kernel_rfl) ?_;refine wg _ _ _ _ fun g=>?_
 have hhe:decide ((⟨a_2,a_3,a_4⟩:Han)=⟨h_1,h_2,h_3⟩)=(decide (a_2=h_1)&&decide (a_3=h_2)&&decide (a_4=h_3)):=by simp[and_assoc,Bool.and_assoc]
 rw[hhe]
 have hr:=hax.r
 clear hhe
 generalize decide (-1∈al)=pl at *
 clear hax
 by_cases e1:a_2=h_1
 ·by_cases e2:a_3=h_2
  ·by_cases e3:a_4=h_3
   ·subst e1 e2 e3
    cases pl<;>simp[af,ah,ad,ae,ab, *,gG,eqA,eqFs]
   ·simp[af,ah,ad,ae,ab, *,gG,eqA,eqFs,e1,e2,e3]
  ·simp[af,ah,ad,ae,ab, *,gG,eqA,eqFs,e1,e2]
 ·simp[af,ah,ad,ae,ab, *,gG,eqA,eqFs,e1]
section
variable{xu xq:AV}{us:List Clear}{qs:List Quota}{gr:Int}(hu:Sl 3 (eN us) xu)(hq:Sl 5 (eQ qs) xq)(hul:us.length<1000000)(hql:qs.length<1000000){l:List (Rcd × AV)}{x1:AV}(hx:Sl 24 (dX l) x1)(hall : ∀p∈l,okRc p)
include hu hq hul hql hx hall
def fstI:AV→Int
 | .tup (.v (.int _ n) :: _)=>n
 | _=>0
theorem Wj(h_1:UInt8)(h_2:UInt32)(h_3:UInt8)(a_1:UInt8)(a_2:UInt8)(a_3:UInt32)(a_4:UInt8)(a_5:Int)(a_6:UInt8)(a_7:UInt32)(a_8:UInt8)(a_9:Int)(a_10:Int)(a_11:UInt8)(a_12:UInt32)(a_13:UInt8)(a_14:Int)(a_15:UInt8)(a_16:UInt32){x:AV}{al:List Int}(hax:Sl 1 (rows al) x):limf env 124 [.iptr 3 [.agg [xu,xq,aI gr]] 0 0,.iptr 1 [x1] 0 0,.iptr 3 [.agg [a8 h_1,a32 h_2,a8 h_3]] 0 0,.iptr 17 [.agg [a8 a_1,a8 a_2,a32 a_3,a8 a_4,aI a_5,a8 a_6,a32 a_7,a8 a_8,aI a_9,aI a_10,a8 a_11,a32 a_12,a8 a_13,aI a_14,a8 a_15,a32 a_16,x]] 0 0]=some (b8 (fstI (ta us qs gr l ⟨h_1,h_2,h_3⟩ a_5))):=by
 have hC:=RO (gr:=gr) hu hq hul hql hx hall h_1 h_2 h_3 a_5
 have hz : ∃z e,ta us qs gr l ⟨h_1,h_2,h_3⟩ a_5 = .tup [aI z,aI e]:=by
  unfold ta
  split
  ·exact⟨_,_,rfl⟩
  ·split
   ·exact xd _ _ _
   ·exact⟨_,_,rfl⟩
 obtain⟨z,e,hz⟩:=hz
 rw[hz]at hC ⊢
 have hf:fstI (.tup [aI z,aI e])=z:=rfl
 rw[hf]
 unfold b8
 refine aw (fn:=Tryz.f124) (c:=pF) rfl (by kernel_rfl) (by kernel_rfl) (by kernel_rfl) (by kernel_rfl) ?_;refine wb _ _ _ _ _ _ fun g=>?_
 clear hall hz hf
 simp[af,ah,ad,ae,ab, *,pW,hu.r,hq.r,hx.r,hax.r]
theorem Wg(a_1:UInt8)(a_2:UInt8)(a_3:UInt32)(a_4:UInt8)(a_5:Int)(a_6:UInt8)(a_7:UInt32)(a_8:UInt8)(a_9:Int)(a_10:Int)(a_11:UInt8)(a_12:UInt32)(a_13:UInt8)(a_14:Int)(a_15:UInt8)(a_16:UInt32){x:AV}{al:List Int}(hax:Sl 1 (rows al) x)(hal:al.length<1000000){ve:Int}(hv:verA us qs gr l (⟨a_1,⟨a_2,a_3,a_4⟩,a_5,⟨⟨⟨a_6,a_7,a_8⟩,a_9⟩,a_10⟩,⟨⟨a_11,a_12,a_13⟩,a_14⟩,⟨a_15,a_16⟩,al⟩:Opn) = .tup [aI ve,aI 0]):limf env 127 [.iptr 3 [.agg [xu,xq,aI gr]] 0 0,.iptr 1 [x1] 0 0,.iptr 17 [.agg [a8 a_1,a8 a_2,a32 a_3,a8 a_4,aI a_5,a8 a_6,a32 a_7,a8 a_8,aI a_9,aI a_10,a8 a_11,a32 a_12,a8 a_13,aI a_14,a8 a_15,a32 a_16,x]] 0 0] =
 some (.agg [aI ve,aB true,a8 2,aI 0,a8 a_1,a8 a_2,a32 a_3,a8 a_4,aI a_5,a8 a_6,a32 a_7,a8 a_8,aI a_9,aI a_10,a8 a_11,a32 a_12,a8 a_13,aI a_14,a8 a_15,a32 a_16,lQ x,aI ve,aI 0,a8 0,a32 0,aB false]):=by
 have hV:=IK (gr:=gr) hu hq hul hql hx hall a_1 a_2 a_3 a_4 a_5 a_6 a_7 a_8 a_9 a_10 a_11 a_12 a_13 a_14 a_15 a_16 hax hal
 rw[hv]at hV
 obtain⟨y,hy,hys,hT⟩:=zb a_1 a_2 a_3 a_4 a_5 a_6 a_7 a_8 a_9 a_10 a_11 a_12 a_13 a_14 a_15 a_16 hax hal
 rw[←hy]
 have hr:=hax.r
 have hyr:=hys.r
 refine aw (fn:=Tryz.f127) (c:=pC) rfl (by kernel_rfl) (by kernel_rfl) (by kernel_rfl) (by kernel_rfl) ?_;refine vY _ _ _ _ _ fun g=>?_
 clear hall hv hax hys hy
 simp[af,ah,ad,ae,ab, *,pT,hu.r,hq.r,hx.r]
end
end Go.Proofs.YtmkmimgokagimaaGreat
