/-
  What is granted to a handle that asks: rulings. No statement of a seat is proved here.
-/
import Derived.Test.YtmkmimgokagimaaGreatLeAdm1
set_option linter.unusedVariables false
set_option linter.unusedSimpArgs false
set_option linter.unusedSectionVars false
set_option linter.unnecessarySimpa false
set_option maxRecDepth 100000
namespace Go.Proofs.YtmkmimgokagimaaGreat
open Go.Ab
attribute [local simp] bj aL aF bg bf keep thr bx aT bc da cZ cJ bD aD bM List.take_of_length_le
@[simp] theorem OP:(AV.v Value.nilFunc).one=true:=id rfl
@[simp] theorem Sm(f:Fn)(a b:List AV):(AV.fn f a b).one=true:=id rfl
section
variable{wu wq:AV}{us:List Clear}{qs:List Quota}(hwu:Sl 3 (eN us) wu)(hwq:Sl 5 (eQ qs) wq)
include hwu hwq
theorem K9(so:Bool)(su ss sg:Int)(ua:UInt8)(ub:UInt32)(uc ud ue:Int)(qa:UInt8)(qb:UInt32)(qc qd qe:Int)(may:Bool)(user:Int)(h_1:UInt8)(h_2:UInt32)(h_3:UInt8)(c:Option Nat):limf env 113 [.isl 2 [.agg [.fn (.func 114) [] [.iptr 1 [aB may] 0 0,.iptr 16 [.agg [aB so,aI su,aI ss,wu,wq,aI sg,a8 ua,a32 ub,aI uc,aI ud,aI ue,a8 qa,a32 qb,aI qc,aI qd,aI qe]] 0 0,.iptr 1 [aI user] 0 0],.fn (.func 175) [] [.iptr 1 [aI 230] 0 0]],.agg [.fn (.func 116) [] [.iptr 16 [.agg [aB so,aI su,aI ss,wu,wq,aI sg,a8 ua,a32 ub,aI uc,aI ud,aI ue,a8 qa,a32 qb,aI qc,aI qd,aI qe]] 0 0],.fn (.func 175) [] [.iptr 1 [aI 0] 0 0]],.agg [.fn (.func 117) [] [.iptr 16 [.agg [aB so,aI su,aI ss,wu,wq,aI sg,a8 ua,a32 ub,aI uc,aI ud,aI ue,a8 qa,a32 qb,aI qc,aI qd,aI qe]] 0 0],.fn (.func 175) [] [.iptr 1 [aI 9] 0 0]],.agg [.fn (.func 118) [] [],.fn (.func 119) [] [.iptr 1 [aI user] 0 0,.iptr 3 [.agg [a8 h_1,a32 h_2,a8 h_3]] 0 0]]] c] =
 some (if !may||(so && !decide (su=user)) then b8 230 else if so then b8 0 else if qc≤uc then b8 9 else .agg [aI 0,aB true,a8 1,aI user,a8 0,a8 h_1,a32 h_2,a8 h_3,aI 0,a8 0,a32 0,a8 0,aI 0,aI 0,a8 0,a32 0,a8 0,aI 0,a8 0,a32 0,aNil,aI 0,aI 0,a8 0,a32 0,aB false]):=by
 have h1:=Wr hwu hwq so su ss sg ua ub uc ud ue qa qb qc qd qe may user
 have h2:=Wq hwu hwq so su ss sg ua ub uc ud ue qa qb qc qd qe
 have h3:=Wp hwu hwq so su ss sg ua ub uc ud ue qa qb qc qd qe
 have h4:=Wo user h_1 h_2 h_3
 have t1:=p9 230
 have t2:=p9 0
 have t3:=p9 9
 have hal:=FZ
 have r1:=hwu.r
 have r2:=hwq.r
 clear hwu hwq
 generalize (!may||(so && !decide (su=user)))=b1 at *
 refine aw (fn:=Tryz.f113) (c:=mm) rfl (by kernel_rfl) (by kernel_rfl) (by kernel_rfl) (by kernel_rfl) ?_;refine tj _ _ _ fun g=>?_
 unfold b8 at *
 simp[af,ah,ad,ae,ab, *,oM]
 refine cY _ _ _ _ _ _ fun g=>?_
 cases b1 with
 | true =>
  clear h2 h3 h4
  simp[af,ah,ad,ae,ab, *,bl,r1,r2]
 | false =>
  simp[af,ah,ad,ae,ab, *,bl,r1,r2]
  refine cY _ _ _ _ _ _ fun g=>?_
  cases so with
  | true =>
   clear h1 h3 h4
   simp[af,ah,ad,ae,ab, *,bl,r1,r2]
  | false =>
   simp[af,ah,ad,ae,ab, *,bl,r1,r2]
   refine cY _ _ _ _ _ _ fun g=>?_
   by_cases e3:qc≤uc
   ·clear h1 h2 h4
    simp[af,ah,ad,ae,ab, *,bl,r1,r2]
   ·simp[af,ah,ad,ae,ab, *,bl,r1,r2]
    refine cY _ _ _ _ _ _ fun g=>?_
    clear h1 h2 h3
    simp[af,ah,ad,ae,ab, *,bl,r1,r2]
end
section
variable{xu xq:AV}{us us':List Clear}{qs:List Quota}{gr:Int}(hu:Sl 3 (eN us) xu)(hq:Sl 5 (eQ qs) xq)(hul:us.length<1000000)(hql:qs.length<1000000){l:List (Rcd × AV)}{x1:AV}(hx:Sl 24 (dX l) x1)(hall : ∀p∈l,okRc p)
 {wu wq:AV} (hwu:Sl 3 (eN us') wu) (hwq:Sl 5 (eQ qs) wq) (hul':us'.length<1000000)
include hu hq hul hql hx hall hwu hwq hul'
theorem K8(so:Bool)(su ss sg:Int)(ua:UInt8)(ub:UInt32)(uc ud ue:Int)(qa:UInt8)(qb:UInt32)(qc qd qe:Int)(hss:IntKind.i64.wrap (ss+1)=ss+1)(h_1:UInt8)(h_2:UInt32)(h_3:UInt8)(a_1:UInt8)(a_2:UInt8)(a_3:UInt32)(a_4:UInt8)(a_5:Int)(a_6:UInt8)(a_7:UInt32)(a_8:UInt8)(a_9:Int)(a_10:Int)(a_11:UInt8)(a_12:UInt32)(a_13:UInt8)(a_14:Int)(a_15:UInt8)(a_16:UInt32){x:AV}{al:List Int}(hax:Sl 1 (rows al) x)(hal:al.length<1000000){ve:Int}(hv:verA us qs gr l (⟨a_1,⟨a_2,a_3,a_4⟩,a_5,⟨⟨⟨a_6,a_7,a_8⟩,a_9⟩,a_10⟩,⟨⟨a_11,a_12,a_13⟩,a_14⟩,⟨a_15,a_16⟩,al⟩:Opn) = .tup [aI ve,aI 0])(c:Option Nat):limf env 113 [.isl 2 [.agg [.fn (.func 120) [] [.iptr 17 [.agg [a8 a_1,a8 a_2,a32 a_3,a8 a_4,aI a_5,a8 a_6,a32 a_7,a8 a_8,aI a_9,aI a_10,a8 a_11,a32 a_12,a8 a_13,aI a_14,a8 a_15,a32 a_16,x]] 0 0,.iptr 3 [.agg [a8 h_1,a32 h_2,a8 h_3]] 0 0],.fn (.func 175) [] [.iptr 1 [aI 8] 0 0]],.agg [.fn (.func 122) [] [.iptr 16 [.agg [aB so,aI su,aI ss,wu,wq,aI sg,a8 ua,a32 ub,aI uc,aI ud,aI ue,a8 qa,a32 qb,aI qc,aI qd,aI qe]] 0 0,.iptr 3 [.agg [a8 h_1,a32 h_2,a8 h_3]] 0 0],.fn (.func 175) [] [.iptr 1 [aI 230] 0 0]],.agg [.fn (.func 123) [] [.iptr 17 [.agg [a8 a_1,a8 a_2,a32 a_3,a8 a_4,aI a_5,a8 a_6,a32 a_7,a8 a_8,aI a_9,aI a_10,a8 a_11,a32 a_12,a8 a_13,aI a_14,a8 a_15,a32 a_16,x]] 0 0,.iptr 16 [.agg [aB so,aI su,aI ss,wu,wq,aI sg,a8 ua,a32 ub,aI uc,aI ud,aI ue,a8 qa,a32 qb,aI qc,aI qd,aI qe]] 0 0],.fn (.func 124) [] [.iptr 3 [.agg [xu,xq,aI gr]] 0 0,.iptr 1 [x1] 0 0,.iptr 3 [.agg [a8 h_1,a32 h_2,a8 h_3]] 0 0,.iptr 17 [.agg [a8 a_1,a8 a_2,a32 a_3,a8 a_4,aI a_5,a8 a_6,a32 a_7,a8 a_8,aI a_9,aI a_10,a8 a_11,a32 a_12,a8 a_13,aI a_14,a8 a_15,a32 a_16,x]] 0 0]],.agg [.fn (.func 125) [] [.iptr 17 [.agg [a8 a_1,a8 a_2,a32 a_3,a8 a_4,aI a_5,a8 a_6,a32 a_7,a8 a_8,aI a_9,aI a_10,a8 a_11,a32 a_12,a8 a_13,aI a_14,a8 a_15,a32 a_16,x]] 0 0,.iptr 16 [.agg [aB so,aI su,aI ss,wu,wq,aI sg,a8 ua,a32 ub,aI uc,aI ud,aI ue,a8 qa,a32 qb,aI qc,aI qd,aI qe]] 0 0],.fn (.func 175) [] [.iptr 1 [aI 231] 0 0]],.agg [.fn (.func 126) [] [.iptr 16 [.agg [aB so,aI su,aI ss,wu,wq,aI sg,a8 ua,a32 ub,aI uc,aI ud,aI ue,a8 qa,a32 qb,aI qc,aI qd,aI qe]] 0 0],.fn (.func 175) [] [.iptr 1 [aI 9] 0 0]],.agg [.fn (.func 118) [] [],.fn (.func 127) [] [.iptr 3 [.agg [xu,xq,aI gr]] 0 0,.iptr 1 [x1] 0 0,.iptr 17 [.agg [a8 a_1,a8 a_2,a32 a_3,a8 a_4,aI a_5,a8 a_6,a32 a_7,a8 a_8,aI a_9,aI a_10,a8 a_11,a32 a_12,a8 a_13,aI a_14,a8 a_15,a32 a_16,x]] 0 0]]] c] =
 some (if !decide ((⟨a_2,a_3,a_4⟩:Han)=⟨h_1,h_2,h_3⟩)||decide (-1∈al) then b8 8 else if !so || !(decide (o5 us' qs sg h_1=0)&&nQ us' su h_1 h_2) then b8 230 else if a_5≤ss then b8 (fstI (ta us qs gr l ⟨h_1,h_2,h_3⟩ a_5)) else if ss+1<a_5 then b8 231 else if qd≤ud then b8 9 else .agg [aI ve,aB true,a8 2,aI 0,a8 a_1,a8 a_2,a32 a_3,a8 a_4,aI a_5,a8 a_6,a32 a_7,a8 a_8,aI a_9,aI a_10,a8 a_11,a32 a_12,a8 a_13,aI a_14,a8 a_15,a32 a_16,lQ x,aI ve,aI 0,a8 0,a32 0,aB false]):=by
 have h1:=Wm a_1 a_2 a_3 a_4 a_5 a_6 a_7 a_8 a_9 a_10 a_11 a_12 a_13 a_14 a_15 a_16 hax hal h_1 h_2 h_3
 have h2:=Wl hwu hwq hul' hql so su ss sg ua ub uc ud ue qa qb qc qd qe h_1 h_2 h_3
 have h3:=Wk hwu hwq a_1 a_2 a_3 a_4 a_5 a_6 a_7 a_8 a_9 a_10 a_11 a_12 a_13 a_14 a_15 a_16 hax so su ss sg ua ub uc ud ue qa qb qc qd qe
 have h4:=Wj (gr:=gr) hu hq hul hql hx hall h_1 h_2 h_3 a_1 a_2 a_3 a_4 a_5 a_6 a_7 a_8 a_9 a_10 a_11 a_12 a_13 a_14 a_15 a_16 hax
 have h5:=Wi hwu hwq a_1 a_2 a_3 a_4 a_5 a_6 a_7 a_8 a_9 a_10 a_11 a_12 a_13 a_14 a_15 a_16 hax so su ss sg ua ub uc ud ue qa qb qc qd qe hss
 have h6:=Wh hwu hwq so su ss sg ua ub uc ud ue qa qb qc qd qe
 have h7:=Wg (gr:=gr) hu hq hul hql hx hall a_1 a_2 a_3 a_4 a_5 a_6 a_7 a_8 a_9 a_10 a_11 a_12 a_13 a_14 a_15 a_16 hax hal hv
 have t1:=p9 8
 have t2:=p9 230
 have t3:=p9 231
 have t4:=p9 9
 have hal':=FZ
 have r1:=hwu.r
 have r2:=hwq.r
 have r3:=hu.r
 have r4:=hq.r
 have r5:=hx.r
 have r6:=hax.r
 obtain⟨y,hy,hys,_⟩:=zb a_1 a_2 a_3 a_4 a_5 a_6 a_7 a_8 a_9 a_10 a_11 a_12 a_13 a_14 a_15 a_16 hax hal
 have r7:=hys.r
 rw[hy]at r7
 clear hu hq hx hall hwu hwq hax hys hy hv hss
 generalize (!decide ((⟨a_2,a_3,a_4⟩:Han)=⟨h_1,h_2,h_3⟩)||decide (-1∈al))=b1 at *
 generalize (!so || !(decide (o5 us' qs sg h_1=0)&&nQ us' su h_1 h_2))=b2 at *
 generalize fstI (ta us qs gr l ⟨h_1,h_2,h_3⟩ a_5)=ce at *
 refine aw (fn:=Tryz.f113) (c:=mm) rfl (by kernel_rfl) (by kernel_rfl) (by kernel_rfl) (by kernel_rfl) ?_;refine tj _ _ _ fun g=>?_
 unfold b8 at *
 simp[af,ah,ad,ae,ab, *,oM]
 refine cY _ _ _ _ _ _ fun g=>?_
 cases b1 with
 | true =>
  clear h2 h3 h4 h5 h6 h7
  simp[af,ah,ad,ae,ab, *,bl]
 | false =>
  simp[af,ah,ad,ae,ab, *,bl]
  refine cY _ _ _ _ _ _ fun g=>?_
  clear h1
  cases b2 with
  | true =>
   clear h3 h4 h5 h6 h7
   simp[af,ah,ad,ae,ab, *,bl]
  | false =>
   simp[af,ah,ad,ae,ab, *,bl]
   refine cY _ _ _ _ _ _ fun g=>?_
   clear h2
   by_cases e3:a_5≤ss
   ·clear h5 h6 h7
    simp[af,ah,ad,ae,ab, *,bl]
   ·simp[af,ah,ad,ae,ab, *,bl]
    refine cY _ _ _ _ _ _ fun g=>?_
    clear h3 h4
    by_cases e4:ss+1<a_5
    ·clear h6 h7
     simp[af,ah,ad,ae,ab, *,bl]
    ·simp[af,ah,ad,ae,ab, *,bl]
     refine cY _ _ _ _ _ _ fun g=>?_
     clear h5
     by_cases e5:qd≤ud
     ·clear h7
      simp[af,ah,ad,ae,ab, *,bl]
     ·simp[af,ah,ad,ae,ab, *,bl]
      refine cY _ _ _ _ _ _ fun g=>?_
      clear h6
      simp[af,ah,ad,ae,ab, *,bl]
end
section
variable{xu xq:AV}{us:List Clear}{qs:List Quota}{gr:Int}(hu:Sl 3 (eN us) xu)(hq:Sl 5 (eQ qs) xq)(hul:us.length<1000000)(hql:qs.length<1000000){l:List (Rcd × AV)}{x1:AV}(hx:Sl 24 (dX l) x1)(hall : ∀p∈l,okRc p)
include hu hq hul hql hx hall
def stA(s:Ses)(wu wq:AV)(sg:Int)(u q:Quota):AV := .agg [aB s.o,aI s.u,aI s.s,wu,wq,aI sg,a8 u.lv,a32 u.cats,aI u.opens,aI u.ops,aI u.cells,a8 q.lv,a32 q.cats,aI q.opens,aI q.ops,aI q.cells]
def adOf(us:List Clear)(qs:List Quota)(gr:Int)(l:List (Rcd × AV))(h:Han)(y:AV):Prop:=match ofA us qs gr l with
 | none=>y = .tup [stA ⟨false,0,0⟩ aNil aNil 0 ⟨0,0,0,0,0⟩ ⟨0,0,0,0,0⟩,aI 8]
 | some b=>if hY h=true then ∃wu wq,Sl 3 (eN b.us) wu∧Sl 5 (eQ qs) wq∧y = .tup [stA (sesD (bE h b.ses)) wu wq b.gr (Dh b h.lv h.cats) (ir us qs gr h.lv h.cats),aI 0] else y = .tup [stA ⟨false,0,0⟩ aNil aNil 0 ⟨0,0,0,0,0⟩ ⟨0,0,0,0,0⟩,aI 8]
theorem MT(h_1:UInt8)(h_2:UInt32)(h_3:UInt8) : ∃y,limf env 111 [.agg [xu,xq,aI gr],x1,.agg [a8 h_1,a32 h_2,a8 h_3]]=some y∧adOf us qs gr l ⟨h_1,h_2,h_3⟩ y:=by
 have hS:=IL (gr:=gr) hu hq hul hql hx hall h_1 h_2 h_3
 obtain⟨yp,hP,hp⟩:=Ld (gr:=gr) hu hq hul hql hx hall
 have hU:=RK (gr:=gr) hu hq hul hql hx hall h_1 h_2
 have hQ:=Ev (gr:=gr) hu hq (by omega) (by omega) h_1 h_2
 have r3:=hu.r
 have r4:=hq.r
 have r5:=hx.r
 unfold sesA at hS
 unfold polA at hp
 unfold GR at hU
 unfold adOf
 clear hu hq hx hall
 cases ho:ofA us qs gr l with
 | none =>
  rw[ho]at hS
  clear hU hp hQ
  refine⟨_,?_,rfl⟩
  unfold stA
  refine aw (fn:=Tryz.f111) (c:=qA) rfl (by kernel_rfl) (by kernel_rfl) (by kernel_rfl) (by kernel_rfl) ?_;refine tV _ _ _ _ _ fun g=>?_
  dsimp only at hS
  simp[af,ah,ad,ae,ab, *,qH]
 | some b =>
  rw[ho]at hS hp hU
  dsimp only at hS hp hU ⊢
  cases hh:hY ⟨h_1,h_2,h_3⟩ with
  | false =>
   rw[hh]at hS
   clear hU hp hQ
   refine⟨_,?_,rfl⟩
   unfold stA
   refine aw (fn:=Tryz.f111) (c:=qA) rfl (by kernel_rfl) (by kernel_rfl) (by kernel_rfl) (by kernel_rfl) ?_;refine tV _ _ _ _ _ fun g=>?_
   simp only[Bool.false_eq_true,if_false]at hS
   simp[af,ah,ad,ae,ab, *,qH]
  | true =>
   rw[hh,if_pos rfl]at hS
   have hlv:h_1≤15:=by unfold hY at hh;simp at hh;exact hh.1
   rw[if_pos hlv]at hU
   obtain⟨wu,wq,hwu,hwq,rfl⟩:=hp
   refine⟨_,?_,wu,wq,hwu,hwq,rfl⟩
   have r1:=hwu.r
   have r2:=hwq.r
   clear hwu hwq hh
   unfold stA
   unfold Ses.av at hS
   generalize sesD (bE ⟨h_1,h_2,h_3⟩ b.ses)=s at *
   generalize Dh b h_1 h_2=u at *
   try dsimp only at *
   generalize ir us qs gr h_1 h_2=q at *
   generalize o5 us qs gr h_1=pe at *
   obtain⟨s1,s2,s3⟩:=s
   obtain⟨u1,u2,u3,u4,u5⟩:=u
   obtain⟨q1,q2,q3,q4,q5⟩:=q
   simp only[Quota.enc]at hU hQ
   refine aw (fn:=Tryz.f111) (c:=qA) rfl (by kernel_rfl) (by kernel_rfl) (by kernel_rfl) (by kernel_rfl) ?_;refine tV _ _ _ _ _ fun g=>?_
   simp[af,ah,ad,ae,ab, *,qH]
end
end Go.Proofs.YtmkmimgokagimaaGreat
