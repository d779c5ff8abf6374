/-
  What a log tells, under way: whether a record fits. No statement of a seat is proved here.
-/
import Derived.Test.YtdbiffjdomokfaaGreatMLeBook
set_option linter.unusedVariables false
set_option linter.unusedSimpArgs false
set_option linter.unusedSectionVars false
set_option linter.unnecessarySimpa false
set_option maxRecDepth 100000
namespace Go.Proofs.YtdbiffjdomokfaaGreat
open Go.Ab
attribute [local simp] bD bq bo bF bE cZ ld bQ bx bA dx dw cg bT aY ct List.take_of_length_le
theorem wG(g:de)(a b:List Ref):ib g (a++b)=(ib g a&&ib g b):=by
 unfold ib;rw[List.all_append]
theorem Ee{f:FuncId}(hm:(env.mode f == 2)=true){dep:Nat}{H:ab}{args:List AV}{y:AV}(h : ∃H',bU env dep (.fn f) args H=some (y,H')∧cz H H')(hf:flat depth y=true)(r:Ref) :
 kI env true (bj env) (bU env dep) H r (some (.fn (.func f) [] [])) args=some (y,H):=by
 obtain⟨H',h1,h2⟩:=h
 have hm':env.mode f=2:=by simpa using hm
 have e:([]++args++[]:List AV)=args:=by simp
 have hs:env.sm.f H H'=true:=G5 h2.old
 simp only[kI,ij,kE,if_pos hm',e,h1,bl,AA,Option.map_none,cond_true]
 show mV true env.sm H (some (y,H'))=_
 simp only[mV,hf,hs,Bool.or_true,Bool.and_true,if_true]
@[simp] theorem Wq(y:AV):nA AV.undef y=true:=id rfl
def vW(b:iw)(o:bR):AZ:=C3 (eW o.h b.ses)
def pT(b:iw)(o:bR):zU:=sS (eW ⟨o.h.lv,o.h.cats⟩ b.used)
def Ha(us0:List Clear)(qs:List bz)(gr0:Int)(b:iw)(r:jr):Bool :=
 !(vW b r.op).o&&(zt b qs r.user r.op.h.lv r.op.h.cats&&decide ((pT b r.op).opens<(pj us0 qs gr0 r.op.h.lv r.op.h.cats).opens))
def G9(us0:List Clear)(qs:List bz)(gr0:Int)(b:iw)(r:jr):Bool :=
 (vW b r.op).o&&(zt b qs (vW b r.op).u r.op.h.lv r.op.h.cats&&(decide (r.op.serial=IntKind.i64.wrap ((vW b r.op).s+1))&&(decide ((pT b r.op).ops<(pj us0 qs gr0 r.op.h.lv r.op.h.cats).ops)&&decide (r.code=xm us0 qs gr0 b r.op))))
def Ei(qs:List bz)(b:iw)(r:jr):Bool:=decide (vj b.us qs b.gr r.gu r.gv r.gc r.gok=0)
section
variable(dep:Nat){H:ab}(hF:Fr H){rb:Ref}{us0:List Clear}{qs:List bz}{gr0:Int}{b:iw}(hb:zW H rb us0 qs gr0 b)(hok:tI b)(hul:us0.length<1000000)(hql:qs.length<1000000)
include hF hb hok hul hql
theorem SV(k:UInt8)(u:Int)(bh:UInt8)(aQ:UInt8)(aP:UInt32)(aT:UInt8)(aX:Int)(bc:UInt8)(ba:UInt32)(bf:UInt8)(bg:Int)(au:Int)(az:UInt8)(ay:UInt32)(ax:UInt8)(aw:Int)(aC:UInt8)(aA:UInt32)(c g1:Int)(v:UInt8)(w:UInt32)(o:Bool){x:AV}{al:List Int}(hx:Sl 1 (rows al) x) :
 ∃H',bU env dep (.fn 71) [.ptr rb 0 0,.agg [a8 k,aI u,a8 bh,a8 aQ,aF aP,a8 aT,aI aX,a8 bc,aF ba,a8 bf,aI bg,aI au,a8 az,aF ay,a8 ax,aI aw,a8 aC,aF aA,x,aI c,aI g1,a8 v,aF w,aB o]] H=some (aB (Ha us0 qs gr0 b ⟨k,u,(⟨bh,⟨aQ,aP,aT⟩,aX,⟨⟨⟨bc,ba,bf⟩,bg⟩,au⟩,⟨⟨az,ay,ax⟩,aw⟩,⟨aC,aA⟩,al⟩:bR),c,g1,v,w,o⟩),H')∧cz H H':=by
 refine fw (fn:=Tryz.f71) (c:=q7) (by kernel_rfl) (by kernel_rfl) (by kernel_rfl) (by kernel_rfl) (by kernel_rfl) ?_
 refine xy _ _ _ _ _ fun g=>?_
 have hg1 : ∀b1:bM,cz H ((⟨dep+1,3,H.gen (dep+1) 3,0⟩,some b1) :: H):=fun b1=>cz.cons hF _ _ _
 have hL:=JQ (dep+1) (hg1 ⟨24,[.agg [a8 k,aI u,a8 bh,a8 aQ,aF aP,a8 aT,aI aX,a8 bc,aF ba,a8 bf,aI bg,aI au,a8 az,aF ay,a8 ax,aI aw,a8 aC,aF aA,x,aI c,aI g1,a8 v,aF w,aB o]],false,false⟩).fr (hb.grow (hg1 _)) hok hul hql aQ aP
 simp[ah,ai,ae,af,ad, *,rp,hx.r]
 refine kU (by kernel_rfl) hL fun H2 hG=>?_
 have hG2:=(hg1 _).trans hG
 have hbx:=hG.old ⟨dep+1,3,H.gen (dep+1) 3,0⟩ _ (by simp;rfl)
 have hb2:=hb.grow hG2
 obtain⟨xu,xq,yu,yq,wu,wq,xr,rs,ru,xh,vh,h1,h2,h3,h4,h5,h6,h7,h8,h9⟩:=hb2.box
 have hlk:=EI (g:=H2.get) hok.ses h6 ⟨aQ,aP,aT⟩
 have hM:=Nn (dep+1) hG2.fr hb2 hok hul hql u aQ aP
 have c4:=h4.s.cells
 have c5:=h5.s.cells
 have c8:=h8.cells
 unfold Ha vW pT
 simp only
 generalize zt b qs u aQ aP=mn at *
 generalize decide ((sS (eW ⟨aQ,aP⟩ b.used)).opens<(pj us0 qs gr0 aQ aP).opens)=lo at *
 generalize C3 (eW ⟨aQ,aP,aT⟩ b.ses)=ss at *
 obtain⟨s1,s2,s3⟩:=ss
 cases s1 with
 | true=>simp[hbx,h1,hlk,hx.r,c4,c5,c8,h2.r,h3.r,AZ.av,hG2]
 | false =>
  simp[hbx,h1,hlk,hx.r,c4,c5,c8,h2.r,h3.r,AZ.av]
  refine kU (by kernel_rfl) hM fun H3 hG3=>?_
  have hG4:=hG2.trans hG3
  cases mn<;>simp[hG4]
theorem SS(k:UInt8)(u:Int)(bh:UInt8)(aQ:UInt8)(aP:UInt32)(aT:UInt8)(aX:Int)(bc:UInt8)(ba:UInt32)(bf:UInt8)(bg:Int)(au:Int)(az:UInt8)(ay:UInt32)(ax:UInt8)(aw:Int)(aC:UInt8)(aA:UInt32)(c g1:Int)(v:UInt8)(w:UInt32)(o:Bool){x:AV}{al:List Int}(hx:Sl 1 (rows al) x)(hal:al.length<1000000) :
 ∃H',bU env dep (.fn 75) [.ptr rb 0 0,.agg [a8 k,aI u,a8 bh,a8 aQ,aF aP,a8 aT,aI aX,a8 bc,aF ba,a8 bf,aI bg,aI au,a8 az,aF ay,a8 ax,aI aw,a8 aC,aF aA,x,aI c,aI g1,a8 v,aF w,aB o]] H=some (aB (G9 us0 qs gr0 b ⟨k,u,(⟨bh,⟨aQ,aP,aT⟩,aX,⟨⟨⟨bc,ba,bf⟩,bg⟩,au⟩,⟨⟨az,ay,ax⟩,aw⟩,⟨aC,aA⟩,al⟩:bR),c,g1,v,w,o⟩),H')∧cz H H':=by
 refine fw (fn:=Tryz.f75) (c:=q0) (by kernel_rfl) (by kernel_rfl) (by kernel_rfl) (by kernel_rfl) (by kernel_rfl) ?_
 refine xv _ _ _ _ _ fun g=>?_
 have hgr : ∀b1 b2:bM,cz H ((⟨dep+1,5,H.gen (dep+1) 5,0⟩,some b2) :: (⟨dep+1,3,H.gen (dep+1) 3,0⟩,some b1) :: H):=fun b1 b2=>⟨by simp(maxDischargeDepth:=12) [ab.get_put,aq,an,Fr.nil,aD,ah,ai,ae,af,ar,ao,ad, *],fun q c hq=>by
  have lq:(H.get q).isSome=true:=by rw[hq];rfl
  simp[ah hF lq,hq]⟩
 obtain⟨xu,xq,yu,yq,wu,wq,xr,rs,ru,xh,vh,h1,h2,h3,h4,h5,h6,h7,h8,h9⟩:=hb.box
 have l1:(H.get rb).isSome=true:=by rw[h1];rfl
 have l6:(H.get rs).isSome=true:=by rw[h6];rfl
 have c4:=h4.s.cells
 have c5:=h5.s.cells
 have c8:=h8.cells
 have hlk:=fun(H':ab)(h:H'.get rs=some (bt (cD uP b.ses)))=>EI (g:=H'.get) hok.ses h ⟨aQ,aP,aT⟩
 unfold G9 vW pT
 simp only
 generalize hss:C3 (eW ⟨aQ,aP,aT⟩ b.ses)=ss at *
 obtain⟨s1,s2,s3⟩:=ss
 simp[ah,ai,ae,af,ad, *,rj,hx.r,h1,h6,hlk,AZ.av]
 refine kU (by kernel_rfl) (JQ (dep+1) (hgr _ _).fr (hb.grow (hgr _ _)) hok hul hql _ _) fun H4 hG=>?_
 have hG2:=(hgr _ _).trans hG
 have b3:=hG.old ⟨dep+1,3,H.gen (dep+1) 3,0⟩ _ (by simp;rfl)
 have b5:=hG.old ⟨dep+1,5,H.gen (dep+1) 5,0⟩ _ (by simp;rfl)
 have hb4:=hb.grow hG2
 have hM:=Ee (by kernel_rfl) (Nn (dep+1) hG.fr hb4 hok hul hql s2 aQ aP) rfl
 have hV:=Ee (by kernel_rfl) (HR (dep+1) hG.fr hb4 hok hul hql bh aQ aP aT aX bc ba bf bg au az ay ax aw aC aA hx hal) rfl
 generalize zt b qs s2 aQ aP=mn at *
 generalize decide ((sS (eW ⟨aQ,aP⟩ b.used)).opens<(pj us0 qs gr0 aQ aP).opens)=lo at *
 generalize decide ((sS (eW ⟨aQ,aP⟩ b.used)).ops<(pj us0 qs gr0 aQ aP).ops)=lp at *
 generalize xm us0 qs gr0 b (⟨bh,⟨aQ,aP,aT⟩,aX,⟨⟨⟨bc,ba,bf⟩,bg⟩,au⟩,⟨⟨az,ay,ax⟩,aw⟩,⟨aC,aA⟩,al⟩:bR)=ve at *
 have hH4:=hG.fr
 clear hb hb4 h4 h5 h8 hok hlk
 cases s1 with
 | false=>simp[b3,b5,hx.r,kC,hG2]
 | true =>
 cases mn with
 | false=>simp[b3,b5,hx.r,kC,hM,hG2]
 | true =>
 by_cases he:aX=IntKind.i64.wrap (s3+1)
 ·subst he
  cases lp with
  | false=>simp[b3,b5,hx.r,kC,hM,hG2]
  | true=>simp[b3,b5,hx.r,kC,hM,hV,hG2]
 ·simp[b3,b5,hx.r,kC,hM,he,hG2]
theorem SQ(k:UInt8)(u:Int)(bh:UInt8)(aQ:UInt8)(aP:UInt32)(aT:UInt8)(aX:Int)(bc:UInt8)(ba:UInt32)(bf:UInt8)(bg:Int)(au:Int)(az:UInt8)(ay:UInt32)(ax:UInt8)(aw:Int)(aC:UInt8)(aA:UInt32)(c g1:Int)(v:UInt8)(w:UInt32)(o:Bool){x:AV}{al:List Int}(hx:Sl 1 (rows al) x) :
 ∃H',bU env dep (.fn 79) [.ptr rb 0 0,.agg [a8 k,aI u,a8 bh,a8 aQ,aF aP,a8 aT,aI aX,a8 bc,aF ba,a8 bf,aI bg,aI au,a8 az,aF ay,a8 ax,aI aw,a8 aC,aF aA,x,aI c,aI g1,a8 v,aF w,aB o]] H=some (aB (Ei qs b ⟨k,u,(⟨bh,⟨aQ,aP,aT⟩,aX,⟨⟨⟨bc,ba,bf⟩,bg⟩,au⟩,⟨⟨az,ay,ax⟩,aw⟩,⟨aC,aA⟩,al⟩:bR),c,g1,v,w,o⟩),H')∧cz H H':=by
 refine fw (fn:=Tryz.f79) (c:=qZ) (by kernel_rfl) (by kernel_rfl) (by kernel_rfl) (by kernel_rfl) (by kernel_rfl) ?_
 refine xt _ _ _ _ _ fun g=>?_
 obtain⟨xu,xq,yu,yq,wu,wq,xr,rs,ru,xh,vh,h1,h2,h3,h4,h5,h6,h7,h8,h9⟩:=hb.box
 have l1:(H.get rb).isSome=true:=by rw[h1];rfl
 have c4:=fun b1=>(h4.s.cons hF (dep+1) 3 (some b1)).r
 have c5:=fun b1=>(h5.s.cons hF (dep+1) 3 (some b1)).r
 have d4:=h4.s.cells
 have d5:=h5.s.cells
 have d8:=h8.cells
 have hfin : ∀b1 b2:bM,cz H ((⟨dep+1,5,H.gen (dep+1) 5,0⟩,some b2) :: (⟨dep+1,3,H.gen (dep+1) 3,0⟩,some b1) :: H):=fun b1 b2=>⟨by simp(maxDischargeDepth:=12) [ab.get_put,aq,an,Fr.nil,aD,ah,ai,ae,af,ar,ao,ad, *],fun q c hq=>by
  have lq:(H.get q).isSome=true:=by rw[hq];rfl
  simp[ah hF lq,hq]⟩
 unfold Ei
 simp only
 have hfew:=hok.few
 by_cases he:vj b.us qs b.gr g1 v w o=0
 ·obtain⟨yy,hyy,hA⟩:=F8 (gr:=b.gr) h4.s.sl h5.s.sl (by omega) (by omega) g1 v w o he
  have z4:=(ke.grow h4 (cz.cons hF (dep+1) 3 ⟨24,[.agg [a8 k,aI u,a8 bh,a8 aQ,aF aP,a8 aT,aI aX,a8 bc,aF ba,a8 bf,aI bg,aI au,a8 az,aF ay,a8 ax,aI aw,a8 aC,aF aA,x,aI c,aI g1,a8 v,aF w,aB o]],false,false⟩)).refs 6
  have z5:=(ke.grow h5 (cz.cons hF (dep+1) 3 ⟨24,[.agg [a8 k,aI u,a8 bh,a8 aQ,aF aP,a8 aT,aI aX,a8 bc,aF ba,a8 bf,aI bg,aI au,a8 az,aF ay,a8 ax,aI aw,a8 aC,aF aA,x,aI c,aI g1,a8 v,aF w,aB o]],false,false⟩)).refs 6
  have hyr:=hyy.r
  clear hb h4 h5 h8 hok
  simp[ah,ai,ae,af,ad, *,nX,hx.r,h2.r,h3.r,wG]
  done
 ·have hA:=KA (gr:=b.gr) h4.s.sl h5.s.sl (by omega) (by omega) g1 v w o he
  clear hb h4 h5 h8 hok
  simp[ah,ai,ae,af,ad, *,nX,hx.r,h2.r,h3.r]
end
end Go.Proofs.YtdbiffjdomokfaaGreat
