/-
  What a log tells, under way: what a record does. No statement of a seat is proved here.
-/
import Derived.Test.YtdbiffjdomokfaaGreatLeKinds
import Derived.Test.YtdbiffjdomokfaaGreatLeTw
set_option linter.unusedVariables false
set_option linter.unusedSimpArgs false
set_option linter.unusedSectionVars false
set_option linter.unnecessarySimpa false
set_option maxRecDepth 100000
namespace Go.Proofs.YtdbiffjdomokfaaGreat
open Go.Ab
attribute [local simp] bK bw bo bM bL dc kS bU bx bH dJ dI cp bX bh cC List.take_of_length_le
structure iZ (H:ab) (rb rs ru:Ref) (xh xr:AV) (us0:List Clear) (qs:List bI) (gr0:Int) (b:iu):Prop where
 box : ∃xu xq yu yq wu wq,H.get rb=some ⟨10,[.agg [xu,xq,aI gr0,yu,yq,aI b.gr,xr,.mp rs,.mp ru,xh]],false,false⟩∧Sl 3 (fD us0) xu∧Sl 5 (fQ qs) xq∧jJ 3 (fD b.us) H yu wu∧jJ 5 (fQ qs) H yq wq
 ses:H.get rs=some (bq (cz tJ b.ses))
 use:H.get ru=some (bq (cz sg b.used))
 ib:Own 17 (eJ b.ib) H xh
 one:xr.cells=[xr]∧xr.one=true
 sep:rb≠rs∧rb≠ru∧rs≠ru∧xh.at?≠some rb∧xh.at?≠some rs∧xh.at?≠some ru
 t43 : ∀r,xh.at?=some r→r.t=43
theorem nM{z:Nat}{es:List AV}{H:ab}{x:AV}(h:Own z es H x) : ∃y,gY z es H x y:=by
 rcases h with ⟨rfl,rfl⟩ | ⟨r,rfl,hr⟩
 ·exact⟨dg,.inl ⟨rfl,.inl ⟨rfl,rfl⟩⟩⟩
 ·exact⟨_,.inr ⟨r,none,false,rfl,hr,rfl,Nat.le_refl _⟩⟩
theorem iZ.at{H:ab}{rb rs ru:Ref}{xh xr:AV}{us0:List Clear}{qs:List bI}{gr0:Int}{b:iu}(h:iZ H rb rs ru xh xr us0 qs gr0 b):yU H rb us0 qs gr0 b:=by
 obtain⟨xu,xq,yu,yq,wu,wq,h1,h2,h3,h4,h5⟩:=h.box
 obtain⟨vh,h6⟩:=nM h.ib
 exact⟨xu,xq,yu,yq,wu,wq,xr,rs,ru,xh,vh,h1,h2,h3,h4,h5,h.ses,h.use,h6,h.one⟩
structure IX (H H':ab) (rb rs ru:Ref) (xh xh':AV):Prop where
 fr:Fr H'
 old : ∀q c,H.get q=some c→q≠rb→q≠rs→q≠ru→xh.at?≠some q→H'.get q=some c∧xh'.at?≠some q
theorem jJ.dc{z:Nat}{es:List AV}{H H':ab}{x y:AV}(h:jJ z es H x y)(g : ∀q c,H.get q=some c→c.iQ=true→H'.get q=some c):jJ z es H' x y:=by
 rcases h with h | ⟨r,c,rfl,hr,rfl,hc⟩
 ·exact .inl h
 ·exact .inr ⟨r,c,rfl,g _ _ hr rfl,rfl,hc⟩
theorem iZ.upd{H H':ab}{rb rs ru:Ref}{xh xr:AV}{us0:List Clear}{qs:List bI}{gr0:Int}{b b':iu}(h:iZ H rb rs ru xh xr us0 qs gr0 b)(hu:b'.us=b.us)(hg:b'.gr=b.gr)(hh:b'.ib=b.ib)
 (hF:Fr H') (h1:H'.get rs=some (bq (cz tJ b'.ses))) (h2:H'.get ru=some (bq (cz sg b'.used))) (hk : ∀q c,H.get q=some c→q≠rs→q≠ru→H'.get q=some c) :
 iZ H' rb rs ru xh xr us0 qs gr0 b'∧IX H H' rb rs ru xh xh:=by
 obtain⟨xu,xq,yu,yq,wu,wq,e1,e2,e3,e4,e5⟩:=h.box
 have hz : ∀q c,H.get q=some c→c.iQ=true→H'.get q=some c:=by
  intro q c hq hf
  refine hk q c hq ?_ ?_
  ·rintro rfl;rw[h.ses]at hq;cases hq;exact absurd hf (by simp[bq])
  ·rintro rfl;rw[h.use]at hq;cases hq;exact absurd hf (by simp[bq])
 refine⟨⟨⟨xu,xq,yu,yq,wu,wq,?_,e2,e3,?_,e5.dc hz⟩,h1,h2,?_,h.one,h.sep,h.t43⟩,⟨hF,fun q c hq _ h3 h4 h5=>⟨hk q c hq h3 h4,h5⟩⟩⟩
 ·rw[hg];exact hk _ _ e1 h.sep.1 h.sep.2.1
 ·rw[hu];exact e4.dc hz
 ·rw[hh]
  rcases h.ib with ho | ⟨r,rfl,hr⟩
  ·exact .inl ho
  ·exact .inr ⟨r,rfl,hk _ _ hr (fun e=>h.sep.2.2.2.2.1 (by rw[e];rfl)) (fun e=>h.sep.2.2.2.2.2 (by rw[e];rfl))⟩
def vV(b:iu)(o:bQ)(u:Int):iu :=
 {b with ses:=lF o.h (zT.av ⟨true,u,0⟩) b.ses,used:=lF ⟨o.h.lv,o.h.cats⟩ (yS.av { po b o with opens:=IntKind.i64.wrap ((po b o).opens+1)}) b.used}
def Gf(b:iu)(o:bQ)(code:Int):yS := { po b o with ops:=IntKind.i64.wrap ((po b o).ops+1),cells:=if code=0∧o.kind=1 then IntKind.i64.wrap ((po b o).cells+o.s.many) else (po b o).cells}
def qR(b:iu)(o:bQ)(code:Int)(y:AV):iu :=
 {b with ses:=lF o.h (zT.av { uY b o with s:=IntKind.i64.wrap ((uY b o).s+1)}) b.ses,used:=lF ⟨o.h.lv,o.h.cats⟩ (yS.av (Gf b o code)) b.used,ib:=if code=0 then b.ib++[(o,y)] else b.ib}
def xp(b:iu)(u:Int)(v:UInt8)(c:UInt32)(ok:Bool):iu := { b with us:=b.us.set u.toNat ⟨v,c,ok⟩,gr:=IntKind.i64.wrap (b.gr - 1)}
theorem Nj{H:ab}{rs:Ref}{l:List (zU × AV)}(hr:H.get rs=some (bq (cz tJ l)))(h:zU)(x:AV):dE env.P H 88 (some (.mp rs)) (some (.agg [a8 h.lv,aF h.cats,a8 h.num])) (some x)=some (AV.undef,H.put rs (some (bq (cz tJ (lF h x l))))) :=
 pg D6 Bb (t:=88) (et:=119) (by kernel_rfl) hr h x
theorem Ni{H:ab}{ru:Ref}{l:List (nw × AV)}(hr:H.get ru=some (bq (cz sg l)))(v:nw)(x:AV):dE env.P H 89 (some (.mp ru)) (some (.agg [a8 v.lv,aF v.cats])) (some x)=some (AV.undef,H.put ru (some (bq (cz sg (lF v x l))))) :=
 pg D5 A5 (t:=89) (et:=76) (by kernel_rfl) hr v x
section
variable(dep:Nat){H:ab}(hF:Fr H){rb rs ru:Ref}{xh xr:AV}{us0:List Clear}{qs:List bI}{gr0:Int}{b:iu}(hb:iZ H rb rs ru xh xr us0 qs gr0 b)(hok:sH b)
include hF hb hok
theorem QW(k:UInt8)(u:Int)(bg:UInt8)(aP:UInt8)(aO:UInt32)(aT:UInt8)(aW:Int)(ba:UInt8)(aZ:UInt32)(bc:UInt8)(bf:Int)(au:Int)(az:UInt8)(ay:UInt32)(ax:UInt8)(aw:Int)(aC:UInt8)(aA:UInt32)(c g1:Int)(v:UInt8)(w:UInt32)(o:Bool){x:AV}{al:List Int}(hx:Sl 1 (rows al) x) :
 ∃H',bR env dep (.fn 74) [.ptr rb 0 0,.agg [a8 k,aI u,a8 bg,a8 aP,aF aO,a8 aT,aI aW,a8 ba,aF aZ,a8 bc,aI bf,aI au,a8 az,aF ay,a8 ax,aI aw,a8 aC,aF aA,x,aI c,aI g1,a8 v,aF w,aB o]] H=some (.v (.tuple #[]),H')∧iZ H' rb rs ru xh xr us0 qs gr0 (vV b (⟨bg,⟨aP,aO,aT⟩,aW,⟨⟨⟨ba,aZ,bc⟩,bf⟩,au⟩,⟨⟨az,ay,ax⟩,aw⟩,⟨aC,aA⟩,al⟩:bQ) u)∧IX H H' rb rs ru xh xh:=by
 have hgo:bW env Tryz.f74 (dep+1) [.code qy] (qA 0 [.ptr rb 0 0,.agg [a8 k,aI u,a8 bg,a8 aP,aF aO,a8 aT,aI aW,a8 ba,aF aZ,a8 bc,aI bf,aI au,a8 az,aF ay,a8 ax,aI aw,a8 aC,aF aA,x,aI c,aI g1,a8 v,aF w,aB o]]) H fun y H1=>y = .v (.tuple #[])∧iZ H1 rb rs ru xh xr us0 qs gr0 (vV b (⟨bg,⟨aP,aO,aT⟩,aW,⟨⟨⟨ba,aZ,bc⟩,bf⟩,au⟩,⟨⟨az,ay,ax⟩,aw⟩,⟨aC,aA⟩,al⟩:bQ) u)∧IX H H1 rb rs ru xh xh:=by
  refine wm _ _ _ _ _ fun g=>?_
  have hup:=fun H'=>hb.upd (H':=H') (b':=vV b (⟨bg,⟨aP,aO,aT⟩,aW,⟨⟨⟨ba,aZ,bc⟩,bf⟩,au⟩,⟨⟨az,ay,ax⟩,aw⟩,⟨aC,aA⟩,al⟩:bQ) u) rfl rfl rfl
  obtain⟨xu,xq,yu,yq,wu,wq,h1,h2,h3,h4,h5⟩:=hb.box
  have h6:=hb.ses
  have h7:=hb.use
  have c4:=h4.s.cells
  have c5:=h5.s.cells
  have c8:xh.cells=[xh]∧xh.one=true:=by obtain⟨_,hs⟩:=nM hb.ib;exact hs.cells
  have c9:=hb.one
  have l1:(H.get rb).isSome=true:=by rw[h1];rfl
  have l6:(H.get rs).isSome=true:=by rw[h6];rfl
  have l7:(H.get ru).isSome=true:=by rw[h7];rfl
  obtain⟨s1,s2,s3,_⟩:=hb.sep
  have s1':=s1.symm
  have s2':=s2.symm
  have s3':=s3.symm
  have hu1:=fun(H':ab)(h:H'.get rs=some (bq (cz tJ b.ses)))=>Nj h ⟨aP,aO,aT⟩
  have hu2:=fun(H':ab)(h:H'.get ru=some (bq (cz sg b.used)))=>Ni h ⟨aP,aO⟩
  have hlk:=fun(H':ab)(h:H'.get ru=some (bq (cz sg b.used)))=>Ai (g:=H'.get) hok.used h ⟨aP,aO⟩
  simp only[vV,po]at hup
  unfold vV po
  simp only
  generalize rX (eL ⟨aP,aO⟩ b.used)=uu at *
  obtain⟨u1,u2,u3⟩:=uu
  clear hb h4 h5 hok
  simp only[zT.av,yS.av]at hup
  simp[ah,ai,ae,af,ad, *,qF,hx.r,h1,h6,h7,hlk,hu1,hu2,zT.av,yS.av]
  clear hu1 hu2 hlk
  refine hup _ ?_ ?_ ?_ fun q cc hq n1 n2=>?_
  ·exact by simp(maxDischargeDepth:=12) [ab.get_put,aq,an,Fr.nil,aD,ah,ai,ae,af,ar,ao,ad, *]
  ·exact by simp(maxDischargeDepth:=12) [ab.get_put,aq,an,Fr.nil,aD,ah,ai,ae,af,ar,ao,ad, *]
  ·exact by simp(maxDischargeDepth:=12) [ab.get_put,aq,an,Fr.nil,aD,ah,ai,ae,af,ar,ao,ad, *]
  ·have lq:(H.get q).isSome=true:=by rw[hq];rfl
   simp[ah hF lq,ab.get_put,n1,n2,n1.symm,n2.symm,hq]
 obtain⟨y,H',h1,rfl,h2⟩:=lL (f:=74) (by kernel_rfl) (by kernel_rfl) (by kernel_rfl) (by kernel_rfl) (by kernel_rfl) hgo
 exact⟨H',h1,h2⟩
theorem QS(k:UInt8)(u:Int)(bg:UInt8)(aP:UInt8)(aO:UInt32)(aT:UInt8)(aW:Int)(ba:UInt8)(aZ:UInt32)(bc:UInt8)(bf:Int)(au:Int)(az:UInt8)(ay:UInt32)(ax:UInt8)(aw:Int)(aC:UInt8)(aA:UInt32)(c g1:Int)(v:UInt8)(w:UInt32)(o:Bool){x:AV}{al:List Int}(hx:Sl 1 (rows al) x)(hql:qs.length<1000000)(he:uh b.us qs b.gr g1 v w o=0) :
 ∃H',bR env dep (.fn 81) [.ptr rb 0 0,.agg [a8 k,aI u,a8 bg,a8 aP,aF aO,a8 aT,aI aW,a8 ba,aF aZ,a8 bc,aI bf,aI au,a8 az,aF ay,a8 ax,aI aw,a8 aC,aF aA,x,aI c,aI g1,a8 v,aF w,aB o]] H=some (.v (.tuple #[]),H')∧iZ H' rb rs ru xh xr us0 qs gr0 (xp b g1 v w o)∧IX H H' rb rs ru xh xh:=by
 have hgo:bW env Tryz.f81 (dep+1) [.code qv] (qA 0 [.ptr rb 0 0,.agg [a8 k,aI u,a8 bg,a8 aP,aF aO,a8 aT,aI aW,a8 ba,aF aZ,a8 bc,aI bf,aI au,a8 az,aF ay,a8 ax,aI aw,a8 aC,aF aA,x,aI c,aI g1,a8 v,aF w,aB o]]) H fun y H1=>y = .v (.tuple #[])∧iZ H1 rb rs ru xh xr us0 qs gr0 (xp b g1 v w o)∧IX H H1 rb rs ru xh xh:=by
  refine wh _ _ _ _ _ fun g=>?_
  obtain⟨xu,xq,yu,yq,wu,wq,h1,h2,h3,h4,h5⟩:=hb.box
  have h6:=hb.ses
  have h7:=hb.use
  have c8:xh.cells=[xh]∧xh.one=true:=by obtain⟨_,hs⟩:=nM hb.ib;exact hs.cells
  have c9:=hb.one
  have l1:(H.get rb).isSome=true:=by rw[h1];rfl
  have hfew:=hok.few
  have c4:=fun b1=>(h4.s.cons hF (dep+1) 3 (some b1)).r
  have c5:=fun b1=>(h5.s.cons hF (dep+1) 3 (some b1)).r
  have d4:=h4.s.cells
  have d5:=h5.s.cells
  obtain⟨yy,hyy,hA⟩:=E8 (gr:=b.gr) h4.s.sl h5.s.sl (by omega) (by omega) g1 v w o he
  have z4:=(jJ.grow h4 (cw.cons hF (dep+1) 3 ⟨24,[.agg [a8 k,aI u,a8 bg,a8 aP,aF aO,a8 aT,aI aW,a8 ba,aF aZ,a8 bc,aI bf,aI au,a8 az,aF ay,a8 ax,aI aw,a8 aC,aF aA,x,aI c,aI g1,a8 v,aF w,aB o]],false,false⟩)).refs 6
  have z5:=(jJ.grow h5 (cw.cons hF (dep+1) 3 ⟨24,[.agg [a8 k,aI u,a8 bg,a8 aP,aF aO,a8 aT,aI aW,a8 ba,aF aZ,a8 bc,aI bf,aI au,a8 az,aF ay,a8 ax,aI aw,a8 aC,aF aA,x,aI c,aI g1,a8 v,aF w,aB o]],false,false⟩)).refs 6
  have hyr:=hyy.r
  have hfin : ∀H',Fr H'→H'.get rb=some ⟨10,[.agg [xu,xq,aI gr0,.cm 3 (fD (b.us.set g1.toNat ⟨v,w,o⟩)) none,yy,aI (IntKind.i64.wrap (b.gr - 1)),xr,.mp rs,.mp ru,xh]],false,false⟩→(∀q c,H.get q=some c→q≠rb→H'.get q=some c) →
   iZ H' rb rs ru xh xr us0 qs gr0 (xp b g1 v w o)∧IX H H' rb rs ru xh xh:=by
   intro H' f1 f2 f3
   refine⟨⟨⟨xu,xq,_,yy,_,yy,f2,h2,h3,jJ.of (Sl.mk _ _) H',jJ.of hyy H'⟩,f3 _ _ h6 hb.sep.1.symm,f3 _ _ h7 hb.sep.2.1.symm,?_,c9,hb.sep,hb.t43⟩,⟨f1,fun q c hq n1 n2 n3 n4=>⟨f3 q c hq n1,n4⟩⟩⟩
   rcases hb.ib with ho | ⟨r,rfl,hr⟩
   ·exact .inl ho
   ·exact .inr ⟨r,rfl,f3 _ _ hr (fun e=>hb.sep.2.2.2.1 (by rw[e];rfl))⟩
  clear hb h4 h5 hok
  simp[ah,ai,ae,af,ad, *,qD,hx.r,h2.r,h3.r,vx]
  refine hfin _ ?_ ?_ fun q cc hq n1=>?_
  ·exact by simp(maxDischargeDepth:=12) [ab.get_put,aq,an,Fr.nil,aD,ah,ai,ae,af,ar,ao,ad, *]
  ·exact by simp(maxDischargeDepth:=12) [ab.get_put,aq,an,Fr.nil,aD,ah,ai,ae,af,ar,ao,ad, *]
  ·have lq:(H.get q).isSome=true:=by rw[hq];rfl
   simp[ah hF lq,ab.get_put,n1,n1.symm,hq]
 obtain⟨y,H',h1,rfl,h2⟩:=lL (f:=81) (by kernel_rfl) (by kernel_rfl) (by kernel_rfl) (by kernel_rfl) (by kernel_rfl) hgo
 exact⟨H',h1,h2⟩
end
end Go.Proofs.YtdbiffjdomokfaaGreat
