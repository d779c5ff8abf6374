/-
  What a log tells, under way: what an operation does. No statement of a seat is proved here.
-/
import Derived.Test.YtmkmimgokagimaaGreatLeDo
set_option linter.unusedVariables false
set_option linter.unusedSimpArgs false
set_option linter.unusedSectionVars false
set_option linter.unnecessarySimpa false
set_option maxRecDepth 100000
namespace Go.Proofs.YtmkmimgokagimaaGreat
open Go.Ab
attribute [local simp] bJ bw bt bG bF cL kN bX bx bD cR cQ cr bY bh ct List.take_of_length_le
theorem fM.app{H H':ad}{rb rs ru:Ref}{xh xh' xr:AV}{us0:List Clear}{qs:List bn}{gr0:Int}{b b':ep}(h:fM H rb rs ru xh xr us0 qs gr0 b)(hu:b'.us=b.us)(hg:b'.gr=b.gr)
 (hF:Fr H') (h1:H'.get rs=some (bE (cI xA b'.ses))) (h2:H'.get ru=some (bE (cI vx b'.used))) (hh:sO 17 (ff b'.dE) H' xh') (ht : ∀r,xh'.at?=some r→r.t=43)
 (hbx : ∀xu xq yu yq,H.get rb=some ⟨10,[.agg [xu,xq,aI gr0,yu,yq,aI b.gr,xr,.mp rs,.mp ru,xh]],false,false⟩→H'.get rb=some ⟨10,[.agg [xu,xq,aI gr0,yu,yq,aI b.gr,xr,.mp rs,.mp ru,xh']],false,false⟩)
 (hk : ∀q c,H.get q=some c→xh'.at?≠some q∧(q≠rb→q≠rs→q≠ru→xh.at?≠some q→H'.get q=some c)) :
 fM H' rb rs ru xh' xr us0 qs gr0 b'∧NP H H' rb rs ru xh xh':=by
 obtain⟨xu,xq,yu,yq,wu,wq,e1,e2,e3,e4,e5⟩:=h.box
 have hz : ∀q c,H.get q=some c→c.iX=true→H'.get q=some c:=by
  intro q c hq hf
  refine(hk q c hq).2 ?_ ?_ ?_ ?_
  ·rintro rfl;rw[e1]at hq;cases hq;exact absurd hf (by simp)
  ·rintro rfl;rw[h.ses]at hq;cases hq;exact absurd hf (by simp[bE])
  ·rintro rfl;rw[h.use]at hq;cases hq;exact absurd hf (by simp[bE])
  ·intro e
   rcases h.dE with ⟨rfl,_⟩ | ⟨r,rfl,hr⟩
   ·cases e
   ·simp only[AV.at?,Option.some.injEq]at e;subst e;rw[hr]at hq;cases hq;exact absurd hf (by simp)
 refine⟨⟨⟨xu,xq,yu,yq,wu,wq,?_,e2,e3,?_,e5.cL hz⟩,h1,h2,hh,h.one,⟨h.sep.1,h.sep.2.1,h.sep.2.2.1,(hk _ _ e1).1,(hk _ _ h.ses).1,(hk _ _ h.use).1⟩,ht⟩,⟨hF,fun q c hq n1 n2 n3 n4=>⟨(hk q c hq).2 n1 n2 n3 n4,(hk q c hq).1⟩⟩⟩
 ·rw[hg];exact hbx _ _ _ _ e1
 ·rw[hu];exact e4.cL hz
theorem BA{H:ad}{rs:Ref}{l:List (nY × AV)}(hr:H.get rs=some (bE (cI xA l)))(h:nY){K:AV→ad→Prop}{m:Mk (eM env.P H 126 (some (.mp rs)) (some (.agg [a8 h.lv,aF h.cats,a8 h.num])),K)}
 (hk : ∀(i:Nat) l',(∀(H':ad) x,H'.get rs=some (bE (cI xA l'))→dp H' (some (.mp rs)) (some (aI i)) (some x)=some (AV.undef,H'.put rs (some (bE (cI xA (fO h x l)))))) →∀z,K (.tup [z,aI i]) (H.put rs (some (bE (cI xA l'))))) :
 aL (eM env.P H 126 (some (.mp rs)) (some (.agg [a8 h.lv,aF h.cats,a8 h.num]))) K m:=by
 obtain⟨i,l',e1,⟨x0,e2⟩,e3⟩:=zk IN FB (t:=126) (et:=73) (by kernel_rfl) (z := .agg [aB false,aI 0,aI 0]) (by kernel_rfl) hr h
 refine FO e1 (hk i l' (fun H' x h'=>?_) _)
 rw[←e3 x]
 exact wT h' e2 _ x
theorem Bz{H:ad}{ru:Ref}{l:List (jS × AV)}(hr:H.get ru=some (bE (cI vx l)))(v:jS){K:AV→ad→Prop}{m:Mk (eM env.P H 127 (some (.mp ru)) (some (.agg [a8 v.lv,aF v.cats])),K)}
 (hk : ∀(i:Nat) l',(∀(H':ad) x,H'.get ru=some (bE (cI vx l'))→dp H' (some (.mp ru)) (some (aI i)) (some x)=some (AV.undef,H'.put ru (some (bE (cI vx (fO v x l)))))) →∀z,K (.tup [z,aI i]) (H.put ru (some (bE (cI vx l'))))) :
 aL (eM env.P H 127 (some (.mp ru)) (some (.agg [a8 v.lv,aF v.cats]))) K m:=by
 obtain⟨i,l',e1,⟨x0,e2⟩,e3⟩:=zk IM Fv (t:=127) (et:=81) (by kernel_rfl) (z := .agg [a8 0,aF 0,aI 0,aI 0,aI 0]) (by kernel_rfl) hr v
 refine FO e1 (hk i l' (fun H' x h'=>?_) _)
 rw[←e3 x]
 exact wT h' e2 _ x
section
variable(dep:Nat){H:ad}(hF:Fr H){rb rs ru:Ref}{xh xr:AV}{us0:List Clear}{qs:List bn}{gr0:Int}{b:ep}(hb:fM H rb rs ru xh xr us0 qs gr0 b)(hok:ni b)
include hF hb hok
theorem Wy(k:UInt8)(u:Int)(ba:UInt8)(aO:UInt8)(aN:UInt32)(aT:UInt8)(aV:Int)(aX:UInt8)(aW:UInt32)(aY:UInt8)(aZ:Int)(an:Int)(ay:UInt8)(ax:UInt32)(aw:UInt8)(au:Int)(aA:UInt8)(az:UInt32)(c g1:Int)(v:UInt8)(w:UInt32)(o:Bool){x:AV}{al:List Int}(hx:Sl 1 (rows al) x)(hc:c≠0) :
 ∃H',bO env dep (.fn 150) [.ptr rb 0 0,.agg [a8 k,aI u,a8 ba,a8 aO,aF aN,a8 aT,aI aV,a8 aX,aF aW,a8 aY,aI aZ,aI an,a8 ay,aF ax,a8 aw,aI au,a8 aA,aF az,x,aI c,aI g1,a8 v,aF w,aB o]] H=some (.v (.tuple #[]),H')∧fM H' rb rs ru xh xr us0 qs gr0 (rZ b (⟨ba,⟨aO,aN,aT⟩,aV,⟨⟨⟨aX,aW,aY⟩,aZ⟩,an⟩,⟨⟨ay,ax,aw⟩,au⟩,⟨aA,az⟩,al⟩:bz) c cp)∧NP H H' rb rs ru xh xh:=by
 have hgo:b7 env Tryz.f150 (dep+1) [.code pn] (pM 0 [.ptr rb 0 0,.agg [a8 k,aI u,a8 ba,a8 aO,aF aN,a8 aT,aI aV,a8 aX,aF aW,a8 aY,aI aZ,aI an,a8 ay,aF ax,a8 aw,aI au,a8 aA,aF az,x,aI c,aI g1,a8 v,aF w,aB o]]) H fun y H1=>y = .v (.tuple #[])∧fM H1 rb rs ru xh xr us0 qs gr0 (rZ b (⟨ba,⟨aO,aN,aT⟩,aV,⟨⟨⟨aX,aW,aY⟩,aZ⟩,an⟩,⟨⟨ay,ax,aw⟩,au⟩,⟨aA,az⟩,al⟩:bz) c cp)∧NP H H1 rb rs ru xh xh:=by
  refine tl _ _ _ _ _ fun g=>?_
  have hup:=fun H'=>hb.Zb (H':=H') (b':=rZ b (⟨ba,⟨aO,aN,aT⟩,aV,⟨⟨⟨aX,aW,aY⟩,aZ⟩,an⟩,⟨⟨ay,ax,aw⟩,au⟩,⟨aA,az⟩,al⟩:bz) c cp) rfl rfl (by simp[rZ,hc])
  obtain⟨xu,xq,yu,yq,wu,wq,h1,h2,h3,h4,h5⟩:=hb.box
  have h6:=hb.ses
  have h7:=hb.use
  have c4:=h4.s.cells
  have c5:=h5.s.cells
  have c8:xh.cells=[xh]∧xh.one=true:=by obtain⟨_,hs⟩:=lP hb.dE;exact hs.cells
  have c9:=hb.one
  have l1:(H.get rb).isSome=true:=by rw[h1];rfl
  have l6:(H.get rs).isSome=true:=by rw[h6];rfl
  have l7:(H.get ru).isSome=true:=by rw[h7];rfl
  obtain⟨s1,s2,s3,_⟩:=hb.sep
  have s1':=s1.symm
  have s2':=s2.symm
  have s3':=s3.symm
  have hlk:=fun(H':ad)(h:H'.get ru=some (bE (cI vx b.used)))=>Cl (g:=H'.get) hok.used h ⟨aO,aN⟩
  have hlk2:=fun(H':ad)(h:H'.get rs=some (bE (cI xA b.ses)))=>ER (g:=H'.get) hok.ses h ⟨aO,aN,aT⟩
  simp only[rZ,yf,jw,kP,hc,false_and,if_false]at hup
  unfold rZ yf jw kP
  simp only[hc,false_and,if_false]
  generalize nu (bH ⟨aO,aN⟩ b.used)=uu at *
  obtain⟨u1,u2,u3⟩:=uu
  generalize gG (bH ⟨aO,aN,aT⟩ b.ses)=ss at *
  obtain⟨t1,t2,t3⟩:=ss
  clear hb h4 h5 hok
  simp only[uY.av,xB.av]at hup
  simp[ah,ai,ae,af,ab, *,ib,hx.r,h1,h6,h7,hlk,hlk2,uY.av,xB.av,lD,o3,gZ,uJ,hc]
  refine BA (l:=b.ses) ?_ ⟨aO,aN,aT⟩ fun i1 m1 he1 z1=>?_
  ·exact by simp(maxDischargeDepth:=12) [ad.ao,aD,aq,Fr.nil,aJ,ah,ai,ae,af,aC,ar,ab, *]
  simp[ah,ai,ae,af,ab, *,ad.ao,he1]
  refine Bz (l:=b.used) ?_ ⟨aO,aN⟩ fun i2 m2 he2 z2=>?_
  ·exact by simp(maxDischargeDepth:=12) [ad.ao,aD,aq,Fr.nil,aJ,ah,ai,ae,af,aC,ar,ab, *]
  simp[ah,ai,ae,af,ab, *,ad.ao,he2]
  clear hlk hlk2 he1 he2
  refine hup _ ?_ ?_ ?_ fun q cc hq n1 n2=>?_
  ·exact by simp(maxDischargeDepth:=12) [ad.ao,aD,aq,Fr.nil,aJ,ah,ai,ae,af,aC,ar,ab, *]
  ·exact by simp(maxDischargeDepth:=12) [ad.ao,aD,aq,Fr.nil,aJ,ah,ai,ae,af,aC,ar,ab, *]
  ·exact by simp(maxDischargeDepth:=12) [ad.ao,aD,aq,Fr.nil,aJ,ah,ai,ae,af,aC,ar,ab, *]
  ·have lq:(H.get q).isSome=true:=by rw[hq];rfl
   simp[ah hF lq,ad.ao,n1,n2,n1.symm,n2.symm,hq]
 obtain⟨y,H',h1,rfl,h2⟩:=iT (by kernel_rfl) (by kernel_rfl) (by kernel_rfl) (by kernel_rfl) (by kernel_rfl) hgo
 exact⟨H',h1,h2⟩
theorem Ty(k:UInt8)(u:Int)(ba:UInt8)(aO:UInt8)(aN:UInt32)(aT:UInt8)(aV:Int)(aX:UInt8)(aW:UInt32)(aY:UInt8)(aZ:Int)(an:Int)(ay:UInt8)(ax:UInt32)(aw:UInt8)(au:Int)(aA:UInt8)(az:UInt32)(g1:Int)(v:UInt8)(w:UInt32)(o:Bool){x:AV}{al:List Int}(hx:Sl 1 (rows al) x)(hal:al.length<1000000) :
 ∃H' xh',bO env dep (.fn 150) [.ptr rb 0 0,.agg [a8 k,aI u,a8 ba,a8 aO,aF aN,a8 aT,aI aV,a8 aX,aF aW,a8 aY,aI aZ,aI an,a8 ay,aF ax,a8 aw,aI au,a8 aA,aF az,x,aI 0,aI g1,a8 v,aF w,aB o]] H=some (.v (.tuple #[]),H')∧fM H' rb rs ru xh' xr us0 qs gr0 (rZ b (⟨ba,⟨aO,aN,aT⟩,aV,⟨⟨⟨aX,aW,aY⟩,aZ⟩,an⟩,⟨⟨ay,ax,aw⟩,au⟩,⟨aA,az⟩,al⟩:bz) 0 (mY x))∧NP H H' rb rs ru xh xh':=by
 obtain⟨y,ht,hy,hT⟩:=Co ba aO aN aT aV aX aW aY aZ an ay ax aw au aA az hx hal
 rw[←ht]
 clear ht
 have hgo:b7 env Tryz.f150 (dep+1) [.code pn] (pM 0 [.ptr rb 0 0,.agg [a8 k,aI u,a8 ba,a8 aO,aF aN,a8 aT,aI aV,a8 aX,aF aW,a8 aY,aI aZ,aI an,a8 ay,aF ax,a8 aw,aI au,a8 aA,aF az,x,aI 0,aI g1,a8 v,aF w,aB o]]) H fun z H1=>z = .v (.tuple #[]) ∧∃xh',fM H1 rb rs ru xh' xr us0 qs gr0 (rZ b (⟨ba,⟨aO,aN,aT⟩,aV,⟨⟨⟨aX,aW,aY⟩,aZ⟩,an⟩,⟨⟨ay,ax,aw⟩,au⟩,⟨aA,az⟩,al⟩:bz) 0 y)∧NP H H1 rb rs ru xh xh':=by
  refine tl _ _ _ _ _ fun g=>?_
  obtain⟨xu,xq,yu,yq,wu,wq,h1,h2,h3,h4,h5⟩:=hb.box
  have h6:=hb.ses
  have h7:=hb.use
  have c4:=h4.s.cells
  have c5:=h5.s.cells
  have c8:xh.cells=[xh]∧xh.one=true:=by obtain⟨_,hs⟩:=lP hb.dE;exact hs.cells
  have c9:=hb.one
  have l1:(H.get rb).isSome=true:=by rw[h1];rfl
  have l6:(H.get rs).isSome=true:=by rw[h6];rfl
  have l7:(H.get ru).isSome=true:=by rw[h7];rfl
  have hyr:=hy.r
  obtain⟨s1,s2,s3,s4,s5,s6⟩:=hb.sep
  have s1':=s1.symm
  have s2':=s2.symm
  have s3':=s3.symm
  have hlk:=fun(H':ad)(h:H'.get ru=some (bE (cI vx b.used)))=>Cl (g:=H'.get) hok.used h ⟨aO,aN⟩
  have hlk2:=fun(H':ad)(h:H'.get rs=some (bE (cI xA b.ses)))=>ER (g:=H'.get) hok.ses h ⟨aO,aN,aT⟩
  have hmany:=hok.many
  have heo:ff (rZ b (⟨ba,⟨aO,aN,aT⟩,aV,⟨⟨⟨aX,aW,aY⟩,aZ⟩,an⟩,⟨⟨ay,ax,aw⟩,au⟩,⟨aA,az⟩,al⟩:bz) 0 y).dE=ff b.dE++[.agg [a8 ba,a8 aO,aF aN,a8 aT,aI aV,a8 aX,aF aW,a8 aY,aI aZ,aI an,a8 ay,aF ax,a8 aw,aI au,a8 aA,aF az,y]]:=by simp[rZ,ff,IW]
  have hds:(rZ b (⟨ba,⟨aO,aN,aT⟩,aV,⟨⟨⟨aX,aW,aY⟩,aZ⟩,an⟩,⟨⟨ay,ax,aw⟩,au⟩,⟨aA,az⟩,al⟩:bz) 0 y).ses=fO ⟨aO,aN,aT⟩ (uY.av { gG (bH ⟨aO,aN,aT⟩ b.ses)with s:=IntKind.i64.wrap ((gG (bH ⟨aO,aN,aT⟩ b.ses)).s+1)}) b.ses:=rfl
  have hdu:(rZ b (⟨ba,⟨aO,aN,aT⟩,aV,⟨⟨⟨aX,aW,aY⟩,aZ⟩,an⟩,⟨⟨ay,ax,aw⟩,au⟩,⟨aA,az⟩,al⟩:bz) 0 y).used=fO ⟨aO,aN⟩ (xB.av { nu (bH ⟨aO,aN⟩ b.used)with ops:=IntKind.i64.wrap ((nu (bH ⟨aO,aN⟩ b.used)).ops+1),cells:=if ba=1 then IntKind.i64.wrap ((nu (bH ⟨aO,aN⟩ b.used)).cells+an) else (nu (bH ⟨aO,aN⟩ b.used)).cells}) b.used:=by
   simp[rZ,yf,jw]
  have hol:=vE b.dE
  generalize nu (bH ⟨aO,aN⟩ b.used)=uu at *
  obtain⟨u1,u2,u3⟩:=uu
  generalize gG (bH ⟨aO,aN,aT⟩ b.ses)=ss at *
  obtain⟨t1,t2,t3⟩:=ss
  have dE:=hb.dE
  have h43:=hb.t43
  have happ:=fun H' xh'=>fM.app (H':=H') (xh':=xh') (b':=rZ b (⟨ba,⟨aO,aN,aT⟩,aV,⟨⟨⟨aX,aW,aY⟩,aZ⟩,an⟩,⟨⟨ay,ax,aw⟩,au⟩,⟨aA,az⟩,al⟩:bz) 0 y) hb rfl rfl
  rw[hds,hdu,heo]at happ
  simp only[uY.av,xB.av]at happ
  clear hds hdu heo hb h4 h5
  have hbx : ∀(xh':AV)(H':ad),H'.get rb=some ⟨10,[.agg [xu,xq,aI gr0,yu,yq,aI b.gr,xr,.mp rs,.mp ru,xh']],false,false⟩ →∀xu xq yu yq,H.get rb=some ⟨10,[.agg [xu,xq,aI gr0,yu,yq,aI b.gr,xr,.mp rs,.mp ru,xh]],false,false⟩→H'.get rb=some ⟨10,[.agg [xu,xq,aI gr0,yu,yq,aI b.gr,xr,.mp rs,.mp ru,xh']],false,false⟩:=by
   intro xh' H' h xu' xq' yu' yq' h'
   rw[h1]at h'
   simp only[Option.some.injEq,bP.mk.injEq,List.cons.injEq,AV.agg.injEq,and_true,true_and]at h'
   obtain⟨rfl,rfl,rfl,rfl⟩:=h'
   exact h
  have hQ : ∀(H':ad)(xh':AV),Fr H'→H'.get rs=some (bE (cI xA (fO ⟨aO,aN,aT⟩ (.agg [aB t1,aI t2,aI (IntKind.i64.wrap (t3+1))]) b.ses))) →
   H'.get ru=some (bE (cI vx (fO ⟨aO,aN⟩ (.agg [a8 0,aF 0,aI u1,aI (IntKind.i64.wrap (u2+1)),aI (if ba=1 then IntKind.i64.wrap (u3+an) else u3)]) b.used)))→sO 17 (ff b.dE++[.agg [a8 ba,a8 aO,aF aN,a8 aT,aI aV,a8 aX,aF aW,a8 aY,aI aZ,aI an,a8 ay,aF ax,a8 aw,aI au,a8 aA,aF az,y]]) H' xh'→(∀r,xh'.at?=some r→r.t=43) →
   H'.get rb=some ⟨10,[.agg [xu,xq,aI gr0,yu,yq,aI b.gr,xr,.mp rs,.mp ru,xh']],false,false⟩→(∀q c,H.get q=some c→xh'.at?≠some q∧(q≠rb→q≠rs→q≠ru→xh.at?≠some q→H'.get q=some c)) →
   ∃xh',fM H' rb rs ru xh' xr us0 qs gr0 (rZ b (⟨ba,⟨aO,aN,aT⟩,aV,⟨⟨⟨aX,aW,aY⟩,aZ⟩,an⟩,⟨⟨ay,ax,aw⟩,au⟩,⟨aA,az⟩,al⟩:bz) 0 y)∧NP H H' rb rs ru xh xh' :=
   fun H' xh' a1 a2 a3 a4 at' a5 a6=>⟨xh',happ H' xh' a1 a2 a3 a4 at' (hbx _ _ a5) a6⟩
  clear happ hbx
  generalize ff b.dE=eo at *
  generalize b.dE.length=nh at *
  clear hok
  generalize rZ b (⟨ba,⟨aO,aN,aT⟩,aV,⟨⟨⟨aX,aW,aY⟩,aZ⟩,an⟩,⟨⟨ay,ax,aw⟩,au⟩,⟨aA,az⟩,al⟩:bz) 0 y=B' at *
  revert hQ
  rcases dE with ⟨rfl,rfl⟩ | ⟨r,rfl,h8⟩
  ·clear hol h43 hmany nh
   by_cases hk1:ba=1
   ·subst hk1
    simp[ah,ai,ae,af,ab, *,ib,hx.r,h1,h6,h7,hlk,hlk2,uY.av,xB.av,lD,o3,gZ,uJ]
    intro hQ
    refine BA (l:=b.ses) ?_ ⟨aO,aN,aT⟩ fun i1 m1 he1 z1=>?_
    ·clear hQ;exact by simp(maxDischargeDepth:=12) [ad.ao,aD,aq,Fr.nil,aJ,ah,ai,ae,af,aC,ar,ab, *]
    revert hQ
    simp[ah,ai,ae,af,ab, *,ad.ao,he1]
    intro hQ
    refine Bz (l:=b.used) ?_ ⟨aO,aN⟩ fun i2 m2 he2 z2=>?_
    ·clear hQ;exact by simp(maxDischargeDepth:=12) [ad.ao,aD,aq,Fr.nil,aJ,ah,ai,ae,af,aC,ar,ab, *]
    revert hQ
    simp[ah,ai,ae,af,ab, *,ad.ao,he2]
    intro hQ
    clear hlk hlk2 he1 he2
    refine hQ _ (.cP ⟨dep+1,43,H.gen (dep+1) 43,0⟩ 0 1 none) ?_ ?_ ?_ (.inr ⟨⟨dep+1,43,H.gen (dep+1) 43,0⟩,rfl,?_⟩) (fun r hr=>by cases hr;rfl) ?_ fun q cc hq=>⟨?_,fun n1 n2 n3=>?_⟩
    ·clear hQ;exact by simp(maxDischargeDepth:=12) [ad.ao,aD,aq,Fr.nil,aJ,ah,ai,ae,af,aC,ar,ab, *]
    ·clear hQ;exact by simp(maxDischargeDepth:=12) [ad.ao,aD,aq,Fr.nil,aJ,ah,ai,ae,af,aC,ar,ab, *]
    ·clear hQ;exact by simp(maxDischargeDepth:=12) [ad.ao,aD,aq,Fr.nil,aJ,ah,ai,ae,af,aC,ar,ab, *]
    ·clear hQ;exact by simp(maxDischargeDepth:=12) [ad.ao,aD,aq,Fr.nil,aJ,ah,ai,ae,af,aC,ar,ab, *]
    ·clear hQ;exact by simp(maxDischargeDepth:=12) [ad.ao,aD,aq,Fr.nil,aJ,ah,ai,ae,af,aC,ar,ab, *]
    ·clear hQ
     have lq:(H.get q).isSome=true:=by rw[hq];rfl
     simp[AV.at?,ah hF lq]
    ·clear hQ
     have lq:(H.get q).isSome=true:=by rw[hq];rfl
     simp[ah hF lq,ad.ao,n1,n2,n3,fun e=>n1 (Eq.symm e),fun e=>n2 (Eq.symm e),fun e=>n3 (Eq.symm e),hq]
   ·simp only[hk1,if_false]
    simp[ah,ai,ae,af,ab, *,ib,hx.r,h1,h6,h7,hlk,hlk2,uY.av,xB.av,lD,o3,gZ,uJ,hk1]
    intro hQ
    refine BA (l:=b.ses) ?_ ⟨aO,aN,aT⟩ fun i1 m1 he1 z1=>?_
    ·clear hQ;exact by simp(maxDischargeDepth:=12) [ad.ao,aD,aq,Fr.nil,aJ,ah,ai,ae,af,aC,ar,ab, *]
    revert hQ
    simp[ah,ai,ae,af,ab, *,ad.ao,he1]
    intro hQ
    refine Bz (l:=b.used) ?_ ⟨aO,aN⟩ fun i2 m2 he2 z2=>?_
    ·clear hQ;exact by simp(maxDischargeDepth:=12) [ad.ao,aD,aq,Fr.nil,aJ,ah,ai,ae,af,aC,ar,ab, *]
    revert hQ
    simp[ah,ai,ae,af,ab, *,ad.ao,he2]
    intro hQ
    clear hlk hlk2 he1 he2
    refine hQ _ (.cP ⟨dep+1,43,H.gen (dep+1) 43,0⟩ 0 1 none) ?_ ?_ ?_ (.inr ⟨⟨dep+1,43,H.gen (dep+1) 43,0⟩,rfl,?_⟩) (fun r hr=>by cases hr;rfl) ?_ fun q cc hq=>⟨?_,fun n1 n2 n3=>?_⟩
    ·clear hQ;exact by simp(maxDischargeDepth:=12) [ad.ao,aD,aq,Fr.nil,aJ,ah,ai,ae,af,aC,ar,ab, *]
    ·clear hQ;exact by simp(maxDischargeDepth:=12) [ad.ao,aD,aq,Fr.nil,aJ,ah,ai,ae,af,aC,ar,ab, *]
    ·clear hQ;exact by simp(maxDischargeDepth:=12) [ad.ao,aD,aq,Fr.nil,aJ,ah,ai,ae,af,aC,ar,ab, *]
    ·clear hQ;exact by simp(maxDischargeDepth:=12) [ad.ao,aD,aq,Fr.nil,aJ,ah,ai,ae,af,aC,ar,ab, *]
    ·clear hQ;exact by simp(maxDischargeDepth:=12) [ad.ao,aD,aq,Fr.nil,aJ,ah,ai,ae,af,aC,ar,ab, *]
    ·clear hQ
     have lq:(H.get q).isSome=true:=by rw[hq];rfl
     simp[AV.at?,ah hF lq]
    ·clear hQ
     have lq:(H.get q).isSome=true:=by rw[hq];rfl
     simp[ah hF lq,ad.ao,n1,n2,n3,fun e=>n1 (Eq.symm e),fun e=>n2 (Eq.symm e),fun e=>n3 (Eq.symm e),hq]
  ·have f4:pr 17 112 nh true none (some ⟨17,eo,true,false⟩) (some [.agg [a8 ba,a8 aO,aF aN,a8 aT,aI aV,a8 aX,aF aW,a8 aY,aI aZ,aI an,a8 ay,aF ax,a8 aw,aI au,a8 aA,aF az,y]]):=by
    simp;omega
   have e43:=h43 r rfl
   clear h43
   obtain⟨rd,rt,rg,rk⟩:=r
   simp only at e43
   subst e43
   have l8:(H.get ⟨rd,43,rg,rk⟩).isSome=true:=by rw[h8];rfl
   have nr1:(⟨rd,43,rg,rk⟩:Ref)≠rb:=fun e=>s4 (by rw[e];rfl)
   have nr2:(⟨rd,43,rg,rk⟩:Ref)≠rs:=fun e=>s5 (by rw[e];rfl)
   have nr3:(⟨rd,43,rg,rk⟩:Ref)≠ru:=fun e=>s6 (by rw[e];rfl)
   have nr1':=nr1.symm
   have nr2':=nr2.symm
   have nr3':=nr3.symm
   clear s4 s5 s6
   by_cases hk1:ba=1
   ·subst hk1
    simp[ah,ai,ae,af,ab, *,ib,hx.r,h1,h6,h7,hlk,hlk2,uY.av,xB.av,lD,o3,gZ,uJ]
    intro hQ
    refine BA (l:=b.ses) ?_ ⟨aO,aN,aT⟩ fun i1 m1 he1 z1=>?_
    ·clear hQ;exact by simp(maxDischargeDepth:=12) [ad.ao,aD,aq,Fr.nil,aJ,ah,ai,ae,af,aC,ar,ab, *]
    revert hQ
    simp[ah,ai,ae,af,ab, *,ad.ao,he1]
    intro hQ
    refine Bz (l:=b.used) ?_ ⟨aO,aN⟩ fun i2 m2 he2 z2=>?_
    ·clear hQ;exact by simp(maxDischargeDepth:=12) [ad.ao,aD,aq,Fr.nil,aJ,ah,ai,ae,af,aC,ar,ab, *]
    revert hQ
    simp[ah,ai,ae,af,ab, *,ad.ao,he2]
    intro hQ
    clear hlk hlk2 he1 he2
    refine hQ _ (.cP ⟨rd,43,H.gen rd 43,0⟩ 0 (nh+1) none) ?_ ?_ ?_ (.inr ⟨⟨rd,43,H.gen rd 43,0⟩,by simp[hol],?_⟩) (fun r hr=>by cases hr;rfl) ?_ fun q cc hq=>⟨?_,fun n1 n2 n3 n4=>?_⟩
    ·clear hQ;exact by simp(maxDischargeDepth:=12) [ad.ao,aD,aq,Fr.nil,aJ,ah,ai,ae,af,aC,ar,ab, *]
    ·clear hQ;exact by simp(maxDischargeDepth:=12) [ad.ao,aD,aq,Fr.nil,aJ,ah,ai,ae,af,aC,ar,ab, *]
    ·clear hQ;exact by simp(maxDischargeDepth:=12) [ad.ao,aD,aq,Fr.nil,aJ,ah,ai,ae,af,aC,ar,ab, *]
    ·clear hQ;exact by simp(maxDischargeDepth:=12) [ad.ao,aD,aq,Fr.nil,aJ,ah,ai,ae,af,aC,ar,ab, *]
    ·clear hQ;exact by simp(maxDischargeDepth:=12) [ad.ao,aD,aq,Fr.nil,aJ,ah,ai,ae,af,aC,ar,ab, *]
    ·clear hQ
     have lq:(H.get q).isSome=true:=by rw[hq];rfl
     simp[AV.at?,ah hF lq]
    ·clear hQ
     have lq:(H.get q).isSome=true:=by rw[hq];rfl
     simp[ah hF lq,ad.ao,n1,n2,n3,fun e=>n1 (Eq.symm e),fun e=>n2 (Eq.symm e),fun e=>n3 (Eq.symm e),hq]
     all_goals (intro e;exact n4 (by first | exact e.symm | (rw[e];rfl)))
   ·simp only[hk1,if_false]
    simp[ah,ai,ae,af,ab, *,ib,hx.r,h1,h6,h7,hlk,hlk2,uY.av,xB.av,lD,o3,gZ,uJ,hk1]
    intro hQ
    refine BA (l:=b.ses) ?_ ⟨aO,aN,aT⟩ fun i1 m1 he1 z1=>?_
    ·clear hQ;exact by simp(maxDischargeDepth:=12) [ad.ao,aD,aq,Fr.nil,aJ,ah,ai,ae,af,aC,ar,ab, *]
    revert hQ
    simp[ah,ai,ae,af,ab, *,ad.ao,he1]
    intro hQ
    refine Bz (l:=b.used) ?_ ⟨aO,aN⟩ fun i2 m2 he2 z2=>?_
    ·clear hQ;exact by simp(maxDischargeDepth:=12) [ad.ao,aD,aq,Fr.nil,aJ,ah,ai,ae,af,aC,ar,ab, *]
    revert hQ
    simp[ah,ai,ae,af,ab, *,ad.ao,he2]
    intro hQ
    clear hlk hlk2 he1 he2
    refine hQ _ (.cP ⟨rd,43,H.gen rd 43,0⟩ 0 (nh+1) none) ?_ ?_ ?_ (.inr ⟨⟨rd,43,H.gen rd 43,0⟩,by simp[hol],?_⟩) (fun r hr=>by cases hr;rfl) ?_ fun q cc hq=>⟨?_,fun n1 n2 n3 n4=>?_⟩
    ·clear hQ;exact by simp(maxDischargeDepth:=12) [ad.ao,aD,aq,Fr.nil,aJ,ah,ai,ae,af,aC,ar,ab, *]
    ·clear hQ;exact by simp(maxDischargeDepth:=12) [ad.ao,aD,aq,Fr.nil,aJ,ah,ai,ae,af,aC,ar,ab, *]
    ·clear hQ;exact by simp(maxDischargeDepth:=12) [ad.ao,aD,aq,Fr.nil,aJ,ah,ai,ae,af,aC,ar,ab, *]
    ·clear hQ;exact by simp(maxDischargeDepth:=12) [ad.ao,aD,aq,Fr.nil,aJ,ah,ai,ae,af,aC,ar,ab, *]
    ·clear hQ;exact by simp(maxDischargeDepth:=12) [ad.ao,aD,aq,Fr.nil,aJ,ah,ai,ae,af,aC,ar,ab, *]
    ·clear hQ
     have lq:(H.get q).isSome=true:=by rw[hq];rfl
     simp[AV.at?,ah hF lq]
    ·clear hQ
     have lq:(H.get q).isSome=true:=by rw[hq];rfl
     simp[ah hF lq,ad.ao,n1,n2,n3,fun e=>n1 (Eq.symm e),fun e=>n2 (Eq.symm e),fun e=>n3 (Eq.symm e),hq]
     all_goals (intro e;exact n4 (by first | exact e.symm | (rw[e];rfl)))
 obtain⟨z,H',h1,rfl,xh',h2,h3⟩:=iT (by kernel_rfl) (by kernel_rfl) (by kernel_rfl) (by kernel_rfl) (by kernel_rfl) hgo
 exact⟨H',xh',h1,h2,h3⟩
end
end Go.Proofs.YtmkmimgokagimaaGreat
