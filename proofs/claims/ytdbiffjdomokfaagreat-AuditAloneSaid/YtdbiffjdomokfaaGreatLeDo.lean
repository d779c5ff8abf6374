/-
  What a log tells, under way: what a record does. No statement of a seat is proved here.
-/
import Derived.Test.YtdbiffjdomokfaaGreatMLeKinds
import Derived.Test.YtdbiffjdomokfaaGreatLeTw
set_option linter.unusedVariables false
set_option linter.unusedSimpArgs false
set_option linter.unusedSectionVars false
set_option linter.unnecessarySimpa false
set_option maxRecDepth 100000
namespace Go.Proofs.YtdbiffjdomokfaaGreat
open Go.Ab
attribute [local simp] bD bp bl bC bB cV lj bP bt bA dc db cg bR aV cm List.take_of_length_le
structure jr (H:ab) (rb rs ru:Ref) (xh xr:AV) (us0:List Clear) (qs:List bu) (gr0:Int) (b:fF):Prop where
 box : ∃xu xq yu yq wu wq,H.get rb=some ⟨10,[.agg [xu,xq,aI gr0,yu,yq,aI b.gr,xr,.mp rs,.mp ru,xh]],false,false⟩∧Sl 3 (eW us0) xu∧Sl 5 (eY qs) xq∧kj 3 (eW b.us) H yu wu∧kj 5 (eY qs) H yq wq
 ses:H.get rs=some (bw (cH vk b.ses))
 use:H.get ru=some (bw (cH tF b.used))
 dZ:Own 17 (eV b.dZ) H xh
 one:xr.cells=[xr]∧xr.one=true
 sep:rb≠rs∧rb≠ru∧rs≠ru∧xh.at?≠some rb∧xh.at?≠some rs∧xh.at?≠some ru
 t43 : ∀r,xh.at?=some r→r.t=43
theorem oM{z:Nat}{es:List AV}{H:ab}{x:AV}(h:Own z es H x) : ∃y,iw z es H x y:=by
 rcases h with ⟨rfl,rfl⟩ | ⟨r,rfl,hr⟩
 ·exact⟨cP,.inl ⟨rfl,.inl ⟨rfl,rfl⟩⟩⟩
 ·exact⟨_,.inr ⟨r,none,false,rfl,hr,rfl,Nat.le_refl _⟩⟩
theorem jr.at{H:ab}{rb rs ru:Ref}{xh xr:AV}{us0:List Clear}{qs:List bu}{gr0:Int}{b:fF}(h:jr H rb rs ru xh xr us0 qs gr0 b):Ar H rb us0 qs gr0 b:=by
 obtain⟨xu,xq,yu,yq,wu,wq,h1,h2,h3,h4,h5⟩:=h.box
 obtain⟨vh,h6⟩:=oM h.dZ
 exact⟨xu,xq,yu,yq,wu,wq,xr,rs,ru,xh,vh,h1,h2,h3,h4,h5,h.ses,h.use,h6,h.one⟩
structure K0 (H H':ab) (rb rs ru:Ref) (xh xh':AV):Prop where
 fr:Fr H'
 old : ∀q c,H.get q=some c→q≠rb→q≠rs→q≠ru→xh.at?≠some q→H'.get q=some c∧xh'.at?≠some q
theorem kj.cV{z:Nat}{es:List AV}{H H':ab}{x y:AV}(h:kj z es H x y)(g : ∀q c,H.get q=some c→c.jb=true→H'.get q=some c):kj z es H' x y:=by
 rcases h with h | ⟨r,c,rfl,hr,rfl,hc⟩
 ·exact .inl h
 ·exact .inr ⟨r,c,rfl,g _ _ hr rfl,rfl,hc⟩
theorem jr.upd{H H':ab}{rb rs ru:Ref}{xh xr:AV}{us0:List Clear}{qs:List bu}{gr0:Int}{b b':fF}(h:jr H rb rs ru xh xr us0 qs gr0 b)(hu:b'.us=b.us)(hg:b'.gr=b.gr)(hh:b'.dZ=b.dZ)
 (hF:Fr H') (h1:H'.get rs=some (bw (cH vk b'.ses))) (h2:H'.get ru=some (bw (cH tF b'.used))) (hk : ∀q c,H.get q=some c→q≠rs→q≠ru→H'.get q=some c) :
 jr H' rb rs ru xh xr us0 qs gr0 b'∧K0 H H' rb rs ru xh xh:=by
 obtain⟨xu,xq,yu,yq,wu,wq,e1,e2,e3,e4,e5⟩:=h.box
 have hz : ∀q c,H.get q=some c→c.jb=true→H'.get q=some c:=by
  intro q c hq hf
  refine hk q c hq ?_ ?_
  ·rintro rfl;rw[h.ses]at hq;cases hq;exact absurd hf (by simp[bw])
  ·rintro rfl;rw[h.use]at hq;cases hq;exact absurd hf (by simp[bw])
 refine⟨⟨⟨xu,xq,yu,yq,wu,wq,?_,e2,e3,?_,e5.cV hz⟩,h1,h2,?_,h.one,h.sep,h.t43⟩,⟨hF,fun q c hq _ h3 h4 h5=>⟨hk q c hq h3 h4,h5⟩⟩⟩
 ·rw[hg];exact hk _ _ e1 h.sep.1 h.sep.2.1
 ·rw[hu];exact e4.cV hz
 ·rw[hh]
  rcases h.dZ with ho | ⟨r,rfl,hr⟩
  ·exact .inl ho
  ·exact .inr ⟨r,rfl,hk _ _ hr (fun e=>h.sep.2.2.2.2.1 (by rw[e];rfl)) (fun e=>h.sep.2.2.2.2.2 (by rw[e];rfl))⟩
def xI(b:fF)(o:bG)(u:Int):fF :=
 {b with ses:=fJ o.h (vS.av ⟨true,u,0⟩) b.ses,used:=fJ ⟨o.h.lv,o.h.cats⟩ (vR.av { jf b o with opens:=IntKind.i64.wrap ((jf b o).opens+1)}) b.used}
def vu(b:fF)(o:bG)(code:Int):vR := { jf b o with ops:=IntKind.i64.wrap ((jf b o).ops+1),cells:=if code=0∧o.kind=1 then IntKind.i64.wrap ((jf b o).cells+o.s.many) else (jf b o).cells}
def qy(b:fF)(o:bG)(code:Int)(y:AV):fF :=
 {b with ses:=fJ o.h (vS.av { jZ b o with s:=IntKind.i64.wrap ((jZ b o).s+1)}) b.ses,used:=fJ ⟨o.h.lv,o.h.cats⟩ (vR.av (vu b o code)) b.used,dZ:=if code=0 then b.dZ++[(o,y)] else b.dZ}
def y6(b:fF)(u:Int)(v:UInt8)(c:UInt32)(ok:Bool):fF := { b with us:=b.us.set u.toNat ⟨v,c,ok⟩,gr:=IntKind.i64.wrap (b.gr - 1)}
theorem PL{H:ab}{rs:Ref}{l:List (vU × AV)}(hr:H.get rs=some (bw (cH vk l)))(h:vU)(x:AV):dO env.P H 88 (some (.mp rs)) (some (.agg [a8 h.lv,aG h.cats,a8 h.num])) (some x)=some (AV.undef,H.put rs (some (bw (cH vk (fJ h x l))))) :=
 qa FK CC (t:=88) (et:=119) (by kernel_rfl) hr h x
theorem PK{H:ab}{ru:Ref}{l:List (jz × AV)}(hr:H.get ru=some (bw (cH tF l)))(v:jz)(x:AV):dO env.P H 89 (some (.mp ru)) (some (.agg [a8 v.lv,aG v.cats])) (some x)=some (AV.undef,H.put ru (some (bw (cH tF (fJ v x l))))) :=
 qa FJ Cw (t:=89) (et:=76) (by kernel_rfl) hr v x
section
variable(dep:Nat){H:ab}(hF:Fr H){rb rs ru:Ref}{xh xr:AV}{us0:List Clear}{qs:List bu}{gr0:Int}{b:fF}(hb:jr H rb rs ru xh xr us0 qs gr0 b)(hok:ud b)
include hF hb hok
theorem Ty(k:UInt8)(u:Int)(bh:UInt8)(aQ:UInt8)(aP:UInt32)(aW:UInt8)(aY:Int)(bc:UInt8)(ba:UInt32)(bf:UInt8)(bg:Int)(au:Int)(az:UInt8)(ay:UInt32)(ax:UInt8)(aw:Int)(aC:UInt8)(aA:UInt32)(c g1:Int)(v:UInt8)(w:UInt32)(o:Bool){x:AV}{al:List Int}(hx:Sl 1 (rows al) x) :
 ∃H',bV env dep (.fn 74) [.ptr rb 0 0,.agg [a8 k,aI u,a8 bh,a8 aQ,aG aP,a8 aW,aI aY,a8 bc,aG ba,a8 bf,aI bg,aI au,a8 az,aG ay,a8 ax,aI aw,a8 aC,aG aA,x,aI c,aI g1,a8 v,aG w,aB o]] H=some (.v (.tuple #[]),H')∧jr H' rb rs ru xh xr us0 qs gr0 (xI b (⟨bh,⟨aQ,aP,aW⟩,aY,⟨⟨⟨bc,ba,bf⟩,bg⟩,au⟩,⟨⟨az,ay,ax⟩,aw⟩,⟨aC,aA⟩,al⟩:bG) u)∧K0 H H' rb rs ru xh xh:=by
 have hgo:bT env Tryz.f74 (dep+1) [.code rG] (rI 0 [.ptr rb 0 0,.agg [a8 k,aI u,a8 bh,a8 aQ,aG aP,a8 aW,aI aY,a8 bc,aG ba,a8 bf,aI bg,aI au,a8 az,aG ay,a8 ax,aI aw,a8 aC,aG aA,x,aI c,aI g1,a8 v,aG w,aB o]]) H fun y H1=>y = .v (.tuple #[])∧jr H1 rb rs ru xh xr us0 qs gr0 (xI b (⟨bh,⟨aQ,aP,aW⟩,aY,⟨⟨⟨bc,ba,bf⟩,bg⟩,au⟩,⟨⟨az,ay,ax⟩,aw⟩,⟨aC,aA⟩,al⟩:bG) u)∧K0 H H1 rb rs ru xh xh:=by
  refine xW _ _ _ _ _ fun g=>?_
  have hup:=fun H'=>hb.upd (H':=H') (b':=xI b (⟨bh,⟨aQ,aP,aW⟩,aY,⟨⟨⟨bc,ba,bf⟩,bg⟩,au⟩,⟨⟨az,ay,ax⟩,aw⟩,⟨aC,aA⟩,al⟩:bG) u) rfl rfl rfl
  obtain⟨xu,xq,yu,yq,wu,wq,h1,h2,h3,h4,h5⟩:=hb.box
  have h6:=hb.ses
  have h7:=hb.use
  have c4:=h4.s.cells
  have c5:=h5.s.cells
  have c8:xh.cells=[xh]∧xh.one=true:=by obtain⟨_,hs⟩:=oM hb.dZ;exact hs.cells
  have c9:=hb.one
  have l1:(H.get rb).isSome=true:=by rw[h1];rfl
  have l6:(H.get rs).isSome=true:=by rw[h6];rfl
  have l7:(H.get ru).isSome=true:=by rw[h7];rfl
  obtain⟨s1,s2,s3,_⟩:=hb.sep
  have s1':=s1.symm
  have s2':=s2.symm
  have s3':=s3.symm
  have hu1:=fun(H':ab)(h:H'.get rs=some (bw (cH vk b.ses)))=>PL h ⟨aQ,aP,aW⟩
  have hu2:=fun(H':ab)(h:H'.get ru=some (bw (cH tF b.used)))=>PK h ⟨aQ,aP⟩
  have hlk:=fun(H':ab)(h:H'.get ru=some (bw (cH tF b.used)))=>BJ (g:=H'.get) hok.used h ⟨aQ,aP⟩
  simp only[xI,jf]at hup
  unfold xI jf
  simp only
  generalize oz (bZ ⟨aQ,aP⟩ b.used)=uu at *
  obtain⟨u1,u2,u3⟩:=uu
  clear hb h4 h5 hok
  simp only[vS.av,vR.av]at hup
  simp[ah,ai,ae,af,ad, *,rN,hx.r,h1,h6,h7,hlk,hu1,hu2,vS.av,vR.av]
  clear hu1 hu2 hlk
  refine hup _ ?_ ?_ ?_ fun q cc hq n1 n2=>?_
  ·exact by simp(maxDischargeDepth:=12) [ab.get_put,aq,an,Fr.nil,aD,ah,ai,ae,af,ar,ao,ad, *]
  ·exact by simp(maxDischargeDepth:=12) [ab.get_put,aq,an,Fr.nil,aD,ah,ai,ae,af,ar,ao,ad, *]
  ·exact by simp(maxDischargeDepth:=12) [ab.get_put,aq,an,Fr.nil,aD,ah,ai,ae,af,ar,ao,ad, *]
  ·have lq:(H.get q).isSome=true:=by rw[hq];rfl
   simp[ah hF lq,ab.get_put,n1,n2,n1.symm,n2.symm,hq]
 obtain⟨y,H',h1,rfl,h2⟩:=my (f:=74) (by kernel_rfl) (by kernel_rfl) (by kernel_rfl) (by kernel_rfl) (by kernel_rfl) hgo
 exact⟨H',h1,h2⟩
theorem Tu(k:UInt8)(u:Int)(bh:UInt8)(aQ:UInt8)(aP:UInt32)(aW:UInt8)(aY:Int)(bc:UInt8)(ba:UInt32)(bf:UInt8)(bg:Int)(au:Int)(az:UInt8)(ay:UInt32)(ax:UInt8)(aw:Int)(aC:UInt8)(aA:UInt32)(c g1:Int)(v:UInt8)(w:UInt32)(o:Bool){x:AV}{al:List Int}(hx:Sl 1 (rows al) x)(hql:qs.length<1000000)(he:vK b.us qs b.gr g1 v w o=0) :
 ∃H',bV env dep (.fn 81) [.ptr rb 0 0,.agg [a8 k,aI u,a8 bh,a8 aQ,aG aP,a8 aW,aI aY,a8 bc,aG ba,a8 bf,aI bg,aI au,a8 az,aG ay,a8 ax,aI aw,a8 aC,aG aA,x,aI c,aI g1,a8 v,aG w,aB o]] H=some (.v (.tuple #[]),H')∧jr H' rb rs ru xh xr us0 qs gr0 (y6 b g1 v w o)∧K0 H H' rb rs ru xh xh:=by
 have hgo:bT env Tryz.f81 (dep+1) [.code rD] (rI 0 [.ptr rb 0 0,.agg [a8 k,aI u,a8 bh,a8 aQ,aG aP,a8 aW,aI aY,a8 bc,aG ba,a8 bf,aI bg,aI au,a8 az,aG ay,a8 ax,aI aw,a8 aC,aG aA,x,aI c,aI g1,a8 v,aG w,aB o]]) H fun y H1=>y = .v (.tuple #[])∧jr H1 rb rs ru xh xr us0 qs gr0 (y6 b g1 v w o)∧K0 H H1 rb rs ru xh xh:=by
  refine xT _ _ _ _ _ fun g=>?_
  obtain⟨xu,xq,yu,yq,wu,wq,h1,h2,h3,h4,h5⟩:=hb.box
  have h6:=hb.ses
  have h7:=hb.use
  have c8:xh.cells=[xh]∧xh.one=true:=by obtain⟨_,hs⟩:=oM hb.dZ;exact hs.cells
  have c9:=hb.one
  have l1:(H.get rb).isSome=true:=by rw[h1];rfl
  have hfew:=hok.few
  have c4:=fun b1=>(h4.s.cons hF (dep+1) 3 (some b1)).r
  have c5:=fun b1=>(h5.s.cons hF (dep+1) 3 (some b1)).r
  have d4:=h4.s.cells
  have d5:=h5.s.cells
  obtain⟨yy,hyy,hA⟩:=GO (gr:=b.gr) h4.s.sl h5.s.sl (by omega) (by omega) g1 v w o he
  have z4:=(kj.grow h4 (cE.cons hF (dep+1) 3 ⟨24,[.agg [a8 k,aI u,a8 bh,a8 aQ,aG aP,a8 aW,aI aY,a8 bc,aG ba,a8 bf,aI bg,aI au,a8 az,aG ay,a8 ax,aI aw,a8 aC,aG aA,x,aI c,aI g1,a8 v,aG w,aB o]],false,false⟩)).refs 6
  have z5:=(kj.grow h5 (cE.cons hF (dep+1) 3 ⟨24,[.agg [a8 k,aI u,a8 bh,a8 aQ,aG aP,a8 aW,aI aY,a8 bc,aG ba,a8 bf,aI bg,aI au,a8 az,aG ay,a8 ax,aI aw,a8 aC,aG aA,x,aI c,aI g1,a8 v,aG w,aB o]],false,false⟩)).refs 6
  have hyr:=hyy.r
  have hfin : ∀H',Fr H'→H'.get rb=some ⟨10,[.agg [xu,xq,aI gr0,.cw 3 (eW (b.us.set g1.toNat ⟨v,w,o⟩)) none,yy,aI (IntKind.i64.wrap (b.gr - 1)),xr,.mp rs,.mp ru,xh]],false,false⟩→(∀q c,H.get q=some c→q≠rb→H'.get q=some c) →
   jr H' rb rs ru xh xr us0 qs gr0 (y6 b g1 v w o)∧K0 H H' rb rs ru xh xh:=by
   intro H' f1 f2 f3
   refine⟨⟨⟨xu,xq,_,yy,_,yy,f2,h2,h3,kj.of (Sl.mk _ _) H',kj.of hyy H'⟩,f3 _ _ h6 hb.sep.1.symm,f3 _ _ h7 hb.sep.2.1.symm,?_,c9,hb.sep,hb.t43⟩,⟨f1,fun q c hq n1 n2 n3 n4=>⟨f3 q c hq n1,n4⟩⟩⟩
   rcases hb.dZ with ho | ⟨r,rfl,hr⟩
   ·exact .inl ho
   ·exact .inr ⟨r,rfl,f3 _ _ hr (fun e=>hb.sep.2.2.2.1 (by rw[e];rfl))⟩
  clear hb h4 h5 hok
  simp[ah,ai,ae,af,ad, *,rL,hx.r,h2.r,h3.r,xd]
  refine hfin _ ?_ ?_ fun q cc hq n1=>?_
  ·exact by simp(maxDischargeDepth:=12) [ab.get_put,aq,an,Fr.nil,aD,ah,ai,ae,af,ar,ao,ad, *]
  ·exact by simp(maxDischargeDepth:=12) [ab.get_put,aq,an,Fr.nil,aD,ah,ai,ae,af,ar,ao,ad, *]
  ·have lq:(H.get q).isSome=true:=by rw[hq];rfl
   simp[ah hF lq,ab.get_put,n1,n1.symm,hq]
 obtain⟨y,H',h1,rfl,h2⟩:=my (f:=81) (by kernel_rfl) (by kernel_rfl) (by kernel_rfl) (by kernel_rfl) (by kernel_rfl) hgo
 exact⟨H',h1,h2⟩
end
end Go.Proofs.YtdbiffjdomokfaaGreat
