/-
  What a log tells, under way: whether a record fits. No statement of a seat is proved here.
-/
import Derived.Test.YtdbiffjdomokfaaGreatMLeBook
set_option linter.unusedVariables false
set_option linter.unusedSimpArgs false
set_option linter.unusedSectionVars false
set_option linter.unnecessarySimpa false
set_option maxRecDepth 100000
namespace Go.Proofs.YtdbiffjdomokfaaGreat
open Go.Ab
attribute [local simp] bK bw bo bM bL dc kS bU bx bH dJ dI cp bX bh cC List.take_of_length_le
theorem vx(g:cV)(a b:List Ref):gN g (a++b)=(gN g a&&gN g b):=by
 unfold gN;rw[List.all_append]
theorem Da{f:FuncId}(hm:(env.mode f == 2)=true){dep:Nat}{H:ab}{args:List AV}{y:AV}(h : ∃H',bR env dep (.fn f) args H=some (y,H')∧cw H H')(hf:flat depth y=true)(r:Ref) :
 j1 env true (bj env) (bR env dep) H r (some (.fn (.func f) [] [])) args=some (y,H):=by
 obtain⟨H',h1,h2⟩:=h
 have hm':env.mode f=2:=by simpa using hm
 have e:([]++args++[]:List AV)=args:=by simp
 have hs:env.sm.f H H'=true:=F5 h2.old
 simp only[j1,gR,jU,if_pos hm',e,h1,bn,zw,Option.map_none,cond_true]
 show mh true env.sm H (some (y,H'))=_
 simp only[mh,hf,hs,Bool.or_true,Bool.and_true,if_true]
@[simp] theorem Uz(y:AV):mS AV.undef y=true:=id rfl
def uY(b:iu)(o:bQ):zT:=B2 (eL o.h b.ses)
def po(b:iu)(o:bQ):yS:=rX (eL ⟨o.h.lv,o.h.cats⟩ b.used)
def Ga(us0:List Clear)(qs:List bI)(gr0:Int)(b:iu)(r:mv):Bool :=
 !(uY b r.op).o&&(yr b qs r.user r.op.h.lv r.op.h.cats&&decide ((po b r.op).opens<(oN us0 qs gr0 r.op.h.lv r.op.h.cats).opens))
def F9(us0:List Clear)(qs:List bI)(gr0:Int)(b:iu)(r:mv):Bool :=
 (uY b r.op).o&&(yr b qs (uY b r.op).u r.op.h.lv r.op.h.cats&&(decide (r.op.serial=IntKind.i64.wrap ((uY b r.op).s+1))&&(decide ((po b r.op).ops<(oN us0 qs gr0 r.op.h.lv r.op.h.cats).ops)&&decide (r.code=we us0 qs gr0 b r.op))))
def De(qs:List bI)(b:iu)(r:mv):Bool:=decide (uh b.us qs b.gr r.gu r.gv r.gc r.gok=0)
section
variable(dep:Nat){H:ab}(hF:Fr H){rb:Ref}{us0:List Clear}{qs:List bI}{gr0:Int}{b:iu}(hb:yU H rb us0 qs gr0 b)(hok:sH b)(hul:us0.length<1000000)(hql:qs.length<1000000)
include hF hb hok hul hql
theorem QX(k:UInt8)(u:Int)(bg:UInt8)(aP:UInt8)(aO:UInt32)(aT:UInt8)(aW:Int)(ba:UInt8)(aZ:UInt32)(bc:UInt8)(bf:Int)(au:Int)(az:UInt8)(ay:UInt32)(ax:UInt8)(aw:Int)(aC:UInt8)(aA:UInt32)(c g1:Int)(v:UInt8)(w:UInt32)(o:Bool){x:AV}{al:List Int}(hx:Sl 1 (rows al) x) :
 ∃H',bR env dep (.fn 71) [.ptr rb 0 0,.agg [a8 k,aI u,a8 bg,a8 aP,aF aO,a8 aT,aI aW,a8 ba,aF aZ,a8 bc,aI bf,aI au,a8 az,aF ay,a8 ax,aI aw,a8 aC,aF aA,x,aI c,aI g1,a8 v,aF w,aB o]] H=some (aB (Ga us0 qs gr0 b ⟨k,u,(⟨bg,⟨aP,aO,aT⟩,aW,⟨⟨⟨ba,aZ,bc⟩,bf⟩,au⟩,⟨⟨az,ay,ax⟩,aw⟩,⟨aC,aA⟩,al⟩:bQ),c,g1,v,w,o⟩),H')∧cw H H':=by
 refine fc (fn:=Tryz.f71) (c:=qz) (by kernel_rfl) (by kernel_rfl) (by kernel_rfl) (by kernel_rfl) (by kernel_rfl) ?_
 refine wo _ _ _ _ _ fun g=>?_
 have hg1 : ∀b1:bJ,cw H ((⟨dep+1,3,H.gen (dep+1) 3,0⟩,some b1) :: H):=fun b1=>cw.cons hF _ _ _
 have hL:=Iz (dep+1) (hg1 ⟨24,[.agg [a8 k,aI u,a8 bg,a8 aP,aF aO,a8 aT,aI aW,a8 ba,aF aZ,a8 bc,aI bf,aI au,a8 az,aF ay,a8 ax,aI aw,a8 aC,aF aA,x,aI c,aI g1,a8 v,aF w,aB o]],false,false⟩).fr (hb.grow (hg1 _)) hok hul hql aP aO
 simp[ah,ai,ae,af,ad, *,qG,hx.r]
 refine kj (by kernel_rfl) hL fun H2 hG=>?_
 have hG2:=(hg1 _).trans hG
 have hbx:=hG.old ⟨dep+1,3,H.gen (dep+1) 3,0⟩ _ (by simp;rfl)
 have hb2:=hb.grow hG2
 obtain⟨xu,xq,yu,yq,wu,wq,xr,rs,ru,xh,vh,h1,h2,h3,h4,h5,h6,h7,h8,h9⟩:=hb2.box
 have hlk:=DI (g:=H2.get) hok.ses h6 ⟨aP,aO,aT⟩
 have hM:=LG (dep+1) hG2.fr hb2 hok hul hql u aP aO
 have c4:=h4.s.cells
 have c5:=h5.s.cells
 have c8:=h8.cells
 unfold Ga uY po
 simp only
 generalize yr b qs u aP aO=mn at *
 generalize decide ((rX (eL ⟨aP,aO⟩ b.used)).opens<(oN us0 qs gr0 aP aO).opens)=lo at *
 generalize B2 (eL ⟨aP,aO,aT⟩ b.ses)=ss at *
 obtain⟨s1,s2,s3⟩:=ss
 cases s1 with
 | true=>simp[hbx,h1,hlk,hx.r,c4,c5,c8,h2.r,h3.r,zT.av,hG2]
 | false =>
  simp[hbx,h1,hlk,hx.r,c4,c5,c8,h2.r,h3.r,zT.av]
  refine kj (by kernel_rfl) hM fun H3 hG3=>?_
  have hG4:=hG2.trans hG3
  cases mn<;>simp[hG4]
theorem QV(k:UInt8)(u:Int)(bg:UInt8)(aP:UInt8)(aO:UInt32)(aT:UInt8)(aW:Int)(ba:UInt8)(aZ:UInt32)(bc:UInt8)(bf:Int)(au:Int)(az:UInt8)(ay:UInt32)(ax:UInt8)(aw:Int)(aC:UInt8)(aA:UInt32)(c g1:Int)(v:UInt8)(w:UInt32)(o:Bool){x:AV}{al:List Int}(hx:Sl 1 (rows al) x)(hal:al.length<1000000) :
 ∃H',bR env dep (.fn 75) [.ptr rb 0 0,.agg [a8 k,aI u,a8 bg,a8 aP,aF aO,a8 aT,aI aW,a8 ba,aF aZ,a8 bc,aI bf,aI au,a8 az,aF ay,a8 ax,aI aw,a8 aC,aF aA,x,aI c,aI g1,a8 v,aF w,aB o]] H=some (aB (F9 us0 qs gr0 b ⟨k,u,(⟨bg,⟨aP,aO,aT⟩,aW,⟨⟨⟨ba,aZ,bc⟩,bf⟩,au⟩,⟨⟨az,ay,ax⟩,aw⟩,⟨aC,aA⟩,al⟩:bQ),c,g1,v,w,o⟩),H')∧cw H H':=by
 refine fc (fn:=Tryz.f75) (c:=qx) (by kernel_rfl) (by kernel_rfl) (by kernel_rfl) (by kernel_rfl) (by kernel_rfl) ?_
 refine wj _ _ _ _ _ fun g=>?_
 have hgr : ∀b1 b2:bJ,cw H ((⟨dep+1,5,H.gen (dep+1) 5,0⟩,some b2) :: (⟨dep+1,3,H.gen (dep+1) 3,0⟩,some b1) :: H):=fun b1 b2=>⟨by simp(maxDischargeDepth:=12) [ab.get_put,aq,an,Fr.nil,aD,ah,ai,ae,af,ar,ao,ad, *],fun q c hq=>by
  have lq:(H.get q).isSome=true:=by rw[hq];rfl
  simp[ah hF lq,hq]⟩
 obtain⟨xu,xq,yu,yq,wu,wq,xr,rs,ru,xh,vh,h1,h2,h3,h4,h5,h6,h7,h8,h9⟩:=hb.box
 have l1:(H.get rb).isSome=true:=by rw[h1];rfl
 have l6:(H.get rs).isSome=true:=by rw[h6];rfl
 have c4:=h4.s.cells
 have c5:=h5.s.cells
 have c8:=h8.cells
 have hlk:=fun(H':ab)(h:H'.get rs=some (bq (cz tJ b.ses)))=>DI (g:=H'.get) hok.ses h ⟨aP,aO,aT⟩
 unfold F9 uY po
 simp only
 generalize hss:B2 (eL ⟨aP,aO,aT⟩ b.ses)=ss at *
 obtain⟨s1,s2,s3⟩:=ss
 simp[ah,ai,ae,af,ad, *,qE,hx.r,h1,h6,hlk,zT.av]
 refine kj (by kernel_rfl) (Iz (dep+1) (hgr _ _).fr (hb.grow (hgr _ _)) hok hul hql _ _) fun H4 hG=>?_
 have hG2:=(hgr _ _).trans hG
 have b3:=hG.old ⟨dep+1,3,H.gen (dep+1) 3,0⟩ _ (by simp;rfl)
 have b5:=hG.old ⟨dep+1,5,H.gen (dep+1) 5,0⟩ _ (by simp;rfl)
 have hb4:=hb.grow hG2
 have hM:=Da (by kernel_rfl) (LG (dep+1) hG.fr hb4 hok hul hql s2 aP aO) rfl
 have hV:=Da (by kernel_rfl) (GG (dep+1) hG.fr hb4 hok hul hql bg aP aO aT aW ba aZ bc bf au az ay ax aw aC aA hx hal) rfl
 generalize yr b qs s2 aP aO=mn at *
 generalize decide ((rX (eL ⟨aP,aO⟩ b.used)).opens<(oN us0 qs gr0 aP aO).opens)=lo at *
 generalize decide ((rX (eL ⟨aP,aO⟩ b.used)).ops<(oN us0 qs gr0 aP aO).ops)=lp at *
 generalize we us0 qs gr0 b (⟨bg,⟨aP,aO,aT⟩,aW,⟨⟨⟨ba,aZ,bc⟩,bf⟩,au⟩,⟨⟨az,ay,ax⟩,aw⟩,⟨aC,aA⟩,al⟩:bQ)=ve at *
 have hH4:=hG.fr
 clear hb hb4 h4 h5 h8 hok hlk
 cases s1 with
 | false=>simp[b3,b5,hx.r,jS,hG2]
 | true =>
 cases mn with
 | false=>simp[b3,b5,hx.r,jS,hM,hG2]
 | true =>
 by_cases he:aW=IntKind.i64.wrap (s3+1)
 ·subst he
  cases lp with
  | false=>simp[b3,b5,hx.r,jS,hM,hG2]
  | true=>simp[b3,b5,hx.r,jS,hM,hV,hG2]
 ·simp[b3,b5,hx.r,jS,hM,he,hG2]
theorem QT(k:UInt8)(u:Int)(bg:UInt8)(aP:UInt8)(aO:UInt32)(aT:UInt8)(aW:Int)(ba:UInt8)(aZ:UInt32)(bc:UInt8)(bf:Int)(au:Int)(az:UInt8)(ay:UInt32)(ax:UInt8)(aw:Int)(aC:UInt8)(aA:UInt32)(c g1:Int)(v:UInt8)(w:UInt32)(o:Bool){x:AV}{al:List Int}(hx:Sl 1 (rows al) x) :
 ∃H',bR env dep (.fn 79) [.ptr rb 0 0,.agg [a8 k,aI u,a8 bg,a8 aP,aF aO,a8 aT,aI aW,a8 ba,aF aZ,a8 bc,aI bf,aI au,a8 az,aF ay,a8 ax,aI aw,a8 aC,aF aA,x,aI c,aI g1,a8 v,aF w,aB o]] H=some (aB (De qs b ⟨k,u,(⟨bg,⟨aP,aO,aT⟩,aW,⟨⟨⟨ba,aZ,bc⟩,bf⟩,au⟩,⟨⟨az,ay,ax⟩,aw⟩,⟨aC,aA⟩,al⟩:bQ),c,g1,v,w,o⟩),H')∧cw H H':=by
 refine fc (fn:=Tryz.f79) (c:=qw) (by kernel_rfl) (by kernel_rfl) (by kernel_rfl) (by kernel_rfl) (by kernel_rfl) ?_
 refine wi _ _ _ _ _ fun g=>?_
 obtain⟨xu,xq,yu,yq,wu,wq,xr,rs,ru,xh,vh,h1,h2,h3,h4,h5,h6,h7,h8,h9⟩:=hb.box
 have l1:(H.get rb).isSome=true:=by rw[h1];rfl
 have c4:=fun b1=>(h4.s.cons hF (dep+1) 3 (some b1)).r
 have c5:=fun b1=>(h5.s.cons hF (dep+1) 3 (some b1)).r
 have d4:=h4.s.cells
 have d5:=h5.s.cells
 have d8:=h8.cells
 have hfin : ∀b1 b2:bJ,cw H ((⟨dep+1,5,H.gen (dep+1) 5,0⟩,some b2) :: (⟨dep+1,3,H.gen (dep+1) 3,0⟩,some b1) :: H):=fun b1 b2=>⟨by simp(maxDischargeDepth:=12) [ab.get_put,aq,an,Fr.nil,aD,ah,ai,ae,af,ar,ao,ad, *],fun q c hq=>by
  have lq:(H.get q).isSome=true:=by rw[hq];rfl
  simp[ah hF lq,hq]⟩
 unfold De
 simp only
 have hfew:=hok.few
 by_cases he:uh b.us qs b.gr g1 v w o=0
 ·obtain⟨yy,hyy,hA⟩:=E8 (gr:=b.gr) h4.s.sl h5.s.sl (by omega) (by omega) g1 v w o he
  have z4:=(jJ.grow h4 (cw.cons hF (dep+1) 3 ⟨24,[.agg [a8 k,aI u,a8 bg,a8 aP,aF aO,a8 aT,aI aW,a8 ba,aF aZ,a8 bc,aI bf,aI au,a8 az,aF ay,a8 ax,aI aw,a8 aC,aF aA,x,aI c,aI g1,a8 v,aF w,aB o]],false,false⟩)).refs 6
  have z5:=(jJ.grow h5 (cw.cons hF (dep+1) 3 ⟨24,[.agg [a8 k,aI u,a8 bg,a8 aP,aF aO,a8 aT,aI aW,a8 ba,aF aZ,a8 bc,aI bf,aI au,a8 az,aF ay,a8 ax,aI aw,a8 aC,aF aA,x,aI c,aI g1,a8 v,aF w,aB o]],false,false⟩)).refs 6
  have hyr:=hyy.r
  clear hb h4 h5 h8 hok
  simp[ah,ai,ae,af,ad, *,nj,hx.r,h2.r,h3.r,vx]
  done
 ·have hA:=Jj (gr:=b.gr) h4.s.sl h5.s.sl (by omega) (by omega) g1 v w o he
  clear hb h4 h5 h8 hok
  simp[ah,ai,ae,af,ad, *,nj,hx.r,h2.r,h3.r]
end
end Go.Proofs.YtdbiffjdomokfaaGreat
