/-
  What a log tells, under way: what an operation does. No statement of a seat is proved here.
-/
import Derived.Test.YtdbiffjdomokfaaGreatLeDo
set_option linter.unusedVariables false
set_option linter.unusedSimpArgs false
set_option linter.unusedSectionVars false
set_option linter.unnecessarySimpa false
set_option maxRecDepth 100000
namespace Go.Proofs.YtdbiffjdomokfaaGreat
open Go.Ab
attribute [local simp] bD bp bl bC bB cV lj bP bt bA dc db cg bR aV cm List.take_of_length_le
theorem jr.app{H H':ab}{rb rs ru:Ref}{xh xh' xr:AV}{us0:List Clear}{qs:List bu}{gr0:Int}{b b':fF}(h:jr H rb rs ru xh xr us0 qs gr0 b)(hu:b'.us=b.us)(hg:b'.gr=b.gr)
 (hF:Fr H') (h1:H'.get rs=some (bw (cH vk b'.ses))) (h2:H'.get ru=some (bw (cH tF b'.used))) (hh:Own 17 (eV b'.dZ) H' xh') (ht : ∀r,xh'.at?=some r→r.t=43)
 (hbx : ∀xu xq yu yq,H.get rb=some ⟨10,[.agg [xu,xq,aI gr0,yu,yq,aI b.gr,xr,.mp rs,.mp ru,xh]],false,false⟩→H'.get rb=some ⟨10,[.agg [xu,xq,aI gr0,yu,yq,aI b.gr,xr,.mp rs,.mp ru,xh']],false,false⟩)
 (hk : ∀q c,H.get q=some c→xh'.at?≠some q∧(q≠rb→q≠rs→q≠ru→xh.at?≠some q→H'.get q=some c)) :
 jr H' rb rs ru xh' xr us0 qs gr0 b'∧K0 H H' rb rs ru xh xh':=by
 obtain⟨xu,xq,yu,yq,wu,wq,e1,e2,e3,e4,e5⟩:=h.box
 have hz : ∀q c,H.get q=some c→c.jb=true→H'.get q=some c:=by
  intro q c hq hf
  refine(hk q c hq).2 ?_ ?_ ?_ ?_
  ·rintro rfl;rw[e1]at hq;cases hq;exact absurd hf (by simp)
  ·rintro rfl;rw[h.ses]at hq;cases hq;exact absurd hf (by simp[bw])
  ·rintro rfl;rw[h.use]at hq;cases hq;exact absurd hf (by simp[bw])
  ·intro e
   rcases h.dZ with ⟨rfl,_⟩ | ⟨r,rfl,hr⟩
   ·cases e
   ·simp only[AV.at?,Option.some.injEq]at e;subst e;rw[hr]at hq;cases hq;exact absurd hf (by simp)
 refine⟨⟨⟨xu,xq,yu,yq,wu,wq,?_,e2,e3,?_,e5.cV hz⟩,h1,h2,hh,h.one,⟨h.sep.1,h.sep.2.1,h.sep.2.2.1,(hk _ _ e1).1,(hk _ _ h.ses).1,(hk _ _ h.use).1⟩,ht⟩,⟨hF,fun q c hq n1 n2 n3 n4=>⟨(hk q c hq).2 n1 n2 n3 n4,(hk q c hq).1⟩⟩⟩
 ·rw[hg];exact hbx _ _ _ _ e1
 ·rw[hu];exact e4.cV hz
theorem y5{H:ab}{rs:Ref}{l:List (vU × AV)}(hr:H.get rs=some (bw (cH vk l)))(h:vU){K:AV→ab→Prop}{m:Mk (eF env.P H 88 (some (.mp rs)) (some (.agg [a8 h.lv,aG h.cats,a8 h.num])),K)}
 (hk : ∀(i:Nat) l',(∀(H':ab) x,H'.get rs=some (bw (cH vk l'))→dn H' (some (.mp rs)) (some (aI i)) (some x)=some (AV.undef,H'.put rs (some (bw (cH vk (fJ h x l)))))) →∀z,K (.tup [z,aI i]) (H.put rs (some (bw (cH vk l'))))) :
 aO (eF env.P H 88 (some (.mp rs)) (some (.agg [a8 h.lv,aG h.cats,a8 h.num]))) K m:=by
 obtain⟨i,l',e1,⟨x0,e2⟩,e3⟩:=wG FK CC (t:=88) (et:=119) (by kernel_rfl) (z := .agg [aB false,aI 0,aI 0]) (by kernel_rfl) hr h
 refine pH e1 (hk i l' (fun H' x h'=>?_) _)
 rw[←e3 x]
 exact uf h' e2 _ x
theorem y4{H:ab}{ru:Ref}{l:List (jz × AV)}(hr:H.get ru=some (bw (cH tF l)))(v:jz){K:AV→ab→Prop}{m:Mk (eF env.P H 89 (some (.mp ru)) (some (.agg [a8 v.lv,aG v.cats])),K)}
 (hk : ∀(i:Nat) l',(∀(H':ab) x,H'.get ru=some (bw (cH tF l'))→dn H' (some (.mp ru)) (some (aI i)) (some x)=some (AV.undef,H'.put ru (some (bw (cH tF (fJ v x l)))))) →∀z,K (.tup [z,aI i]) (H.put ru (some (bw (cH tF l'))))) :
 aO (eF env.P H 89 (some (.mp ru)) (some (.agg [a8 v.lv,aG v.cats]))) K m:=by
 obtain⟨i,l',e1,⟨x0,e2⟩,e3⟩:=wG FJ Cw (t:=89) (et:=76) (by kernel_rfl) (z := .agg [a8 0,aG 0,aI 0,aI 0,aI 0]) (by kernel_rfl) hr v
 refine pH e1 (hk i l' (fun H' x h'=>?_) _)
 rw[←e3 x]
 exact uf h' e2 _ x
section
variable(dep:Nat){H:ab}(hF:Fr H){rb rs ru:Ref}{xh xr:AV}{us0:List Clear}{qs:List bu}{gr0:Int}{b:fF}(hb:jr H rb rs ru xh xr us0 qs gr0 b)(hok:ud b)
include hF hb hok
theorem Tw(k:UInt8)(u:Int)(bh:UInt8)(aQ:UInt8)(aP:UInt32)(aW:UInt8)(aY:Int)(bc:UInt8)(ba:UInt32)(bf:UInt8)(bg:Int)(au:Int)(az:UInt8)(ay:UInt32)(ax:UInt8)(aw:Int)(aC:UInt8)(aA:UInt32)(c g1:Int)(v:UInt8)(w:UInt32)(o:Bool){x:AV}{al:List Int}(hx:Sl 1 (rows al) x)(hc:c≠0) :
 ∃H',bV env dep (.fn 77) [.ptr rb 0 0,.agg [a8 k,aI u,a8 bh,a8 aQ,aG aP,a8 aW,aI aY,a8 bc,aG ba,a8 bf,aI bg,aI au,a8 az,aG ay,a8 ax,aI aw,a8 aC,aG aA,x,aI c,aI g1,a8 v,aG w,aB o]] H=some (.v (.tuple #[]),H')∧jr H' rb rs ru xh xr us0 qs gr0 (qy b (⟨bh,⟨aQ,aP,aW⟩,aY,⟨⟨⟨bc,ba,bf⟩,bg⟩,au⟩,⟨⟨az,ay,ax⟩,aw⟩,⟨aC,aA⟩,al⟩:bG) c cP)∧K0 H H' rb rs ru xh xh:=by
 have hgo:bT env Tryz.f77 (dep+1) [.code n7] (rI 0 [.ptr rb 0 0,.agg [a8 k,aI u,a8 bh,a8 aQ,aG aP,a8 aW,aI aY,a8 bc,aG ba,a8 bf,aI bg,aI au,a8 az,aG ay,a8 ax,aI aw,a8 aC,aG aA,x,aI c,aI g1,a8 v,aG w,aB o]]) H fun y H1=>y = .v (.tuple #[])∧jr H1 rb rs ru xh xr us0 qs gr0 (qy b (⟨bh,⟨aQ,aP,aW⟩,aY,⟨⟨⟨bc,ba,bf⟩,bg⟩,au⟩,⟨⟨az,ay,ax⟩,aw⟩,⟨aC,aA⟩,al⟩:bG) c cP)∧K0 H H1 rb rs ru xh xh:=by
  refine qX _ _ _ _ _ fun g=>?_
  have hup:=fun H'=>hb.upd (H':=H') (b':=qy b (⟨bh,⟨aQ,aP,aW⟩,aY,⟨⟨⟨bc,ba,bf⟩,bg⟩,au⟩,⟨⟨az,ay,ax⟩,aw⟩,⟨aC,aA⟩,al⟩:bG) c cP) rfl rfl (by simp[qy,hc])
  obtain⟨xu,xq,yu,yq,wu,wq,h1,h2,h3,h4,h5⟩:=hb.box
  have h6:=hb.ses
  have h7:=hb.use
  have c4:=h4.s.cells
  have c5:=h5.s.cells
  have c8:xh.cells=[xh]∧xh.one=true:=by obtain⟨_,hs⟩:=oM hb.dZ;exact hs.cells
  have c9:=hb.one
  have l1:(H.get rb).isSome=true:=by rw[h1];rfl
  have l6:(H.get rs).isSome=true:=by rw[h6];rfl
  have l7:(H.get ru).isSome=true:=by rw[h7];rfl
  obtain⟨s1,s2,s3,_⟩:=hb.sep
  have s1':=s1.symm
  have s2':=s2.symm
  have s3':=s3.symm
  have hlk:=fun(H':ab)(h:H'.get ru=some (bw (cH tF b.used)))=>BJ (g:=H'.get) hok.used h ⟨aQ,aP⟩
  have hlk2:=fun(H':ab)(h:H'.get rs=some (bw (cH vk b.ses)))=>Fl (g:=H'.get) hok.ses h ⟨aQ,aP,aW⟩
  simp only[qy,vu,jf,jZ,hc,false_and,if_false]at hup
  unfold qy vu jf jZ
  simp only[hc,false_and,if_false]
  generalize oz (bZ ⟨aQ,aP⟩ b.used)=uu at *
  obtain⟨u1,u2,u3⟩:=uu
  generalize oJ (bZ ⟨aQ,aP,aW⟩ b.ses)=ss at *
  obtain⟨t1,t2,t3⟩:=ss
  clear hb h4 h5 hok
  simp only[vS.av,vR.av]at hup
  simp[ah,ai,ae,af,ad, *,gR,hx.r,h1,h6,h7,hlk,hlk2,vS.av,vR.av,kH,nJ,gJ,rV,hc]
  refine y5 (l:=b.ses) ?_ ⟨aQ,aP,aW⟩ fun i1 m1 he1 z1=>?_
  ·exact by simp(maxDischargeDepth:=12) [ab.get_put,aq,an,Fr.nil,aD,ah,ai,ae,af,ar,ao,ad, *]
  simp[ah,ai,ae,af,ad, *,ab.get_put,he1]
  refine y4 (l:=b.used) ?_ ⟨aQ,aP⟩ fun i2 m2 he2 z2=>?_
  ·exact by simp(maxDischargeDepth:=12) [ab.get_put,aq,an,Fr.nil,aD,ah,ai,ae,af,ar,ao,ad, *]
  simp[ah,ai,ae,af,ad, *,ab.get_put,he2]
  clear hlk hlk2 he1 he2
  refine hup _ ?_ ?_ ?_ fun q cc hq n1 n2=>?_
  ·exact by simp(maxDischargeDepth:=12) [ab.get_put,aq,an,Fr.nil,aD,ah,ai,ae,af,ar,ao,ad, *]
  ·exact by simp(maxDischargeDepth:=12) [ab.get_put,aq,an,Fr.nil,aD,ah,ai,ae,af,ar,ao,ad, *]
  ·exact by simp(maxDischargeDepth:=12) [ab.get_put,aq,an,Fr.nil,aD,ah,ai,ae,af,ar,ao,ad, *]
  ·have lq:(H.get q).isSome=true:=by rw[hq];rfl
   simp[ah hF lq,ab.get_put,n1,n2,n1.symm,n2.symm,hq]
 obtain⟨y,H',h1,rfl,h2⟩:=my (f:=77) (by kernel_rfl) (by kernel_rfl) (by kernel_rfl) (by kernel_rfl) (by kernel_rfl) hgo
 exact⟨H',h1,h2⟩
theorem QQ(k:UInt8)(u:Int)(bh:UInt8)(aQ:UInt8)(aP:UInt32)(aW:UInt8)(aY:Int)(bc:UInt8)(ba:UInt32)(bf:UInt8)(bg:Int)(au:Int)(az:UInt8)(ay:UInt32)(ax:UInt8)(aw:Int)(aC:UInt8)(aA:UInt32)(g1:Int)(v:UInt8)(w:UInt32)(o:Bool){x:AV}{al:List Int}(hx:Sl 1 (rows al) x)(hal:al.length<1000000) :
 ∃H' xh',bV env dep (.fn 77) [.ptr rb 0 0,.agg [a8 k,aI u,a8 bh,a8 aQ,aG aP,a8 aW,aI aY,a8 bc,aG ba,a8 bf,aI bg,aI au,a8 az,aG ay,a8 ax,aI aw,a8 aC,aG aA,x,aI 0,aI g1,a8 v,aG w,aB o]] H=some (.v (.tuple #[]),H')∧jr H' rb rs ru xh' xr us0 qs gr0 (qy b (⟨bh,⟨aQ,aP,aW⟩,aY,⟨⟨⟨bc,ba,bf⟩,bg⟩,au⟩,⟨⟨az,ay,ax⟩,aw⟩,⟨aC,aA⟩,al⟩:bG) 0 (q0 x))∧K0 H H' rb rs ru xh xh':=by
 obtain⟨y,ht,hy,hT⟩:=Nk bh aQ aP aW aY bc ba bf bg au az ay ax aw aC aA hx hal
 rw[←ht]
 clear ht
 have hgo:bT env Tryz.f77 (dep+1) [.code n7] (rI 0 [.ptr rb 0 0,.agg [a8 k,aI u,a8 bh,a8 aQ,aG aP,a8 aW,aI aY,a8 bc,aG ba,a8 bf,aI bg,aI au,a8 az,aG ay,a8 ax,aI aw,a8 aC,aG aA,x,aI 0,aI g1,a8 v,aG w,aB o]]) H fun z H1=>z = .v (.tuple #[]) ∧∃xh',jr H1 rb rs ru xh' xr us0 qs gr0 (qy b (⟨bh,⟨aQ,aP,aW⟩,aY,⟨⟨⟨bc,ba,bf⟩,bg⟩,au⟩,⟨⟨az,ay,ax⟩,aw⟩,⟨aC,aA⟩,al⟩:bG) 0 y)∧K0 H H1 rb rs ru xh xh':=by
  refine qX _ _ _ _ _ fun g=>?_
  obtain⟨xu,xq,yu,yq,wu,wq,h1,h2,h3,h4,h5⟩:=hb.box
  have h6:=hb.ses
  have h7:=hb.use
  have c4:=h4.s.cells
  have c5:=h5.s.cells
  have c8:xh.cells=[xh]∧xh.one=true:=by obtain⟨_,hs⟩:=oM hb.dZ;exact hs.cells
  have c9:=hb.one
  have l1:(H.get rb).isSome=true:=by rw[h1];rfl
  have l6:(H.get rs).isSome=true:=by rw[h6];rfl
  have l7:(H.get ru).isSome=true:=by rw[h7];rfl
  have hyr:=hy.r
  obtain⟨s1,s2,s3,s4,s5,s6⟩:=hb.sep
  have s1':=s1.symm
  have s2':=s2.symm
  have s3':=s3.symm
  have hlk:=fun(H':ab)(h:H'.get ru=some (bw (cH tF b.used)))=>BJ (g:=H'.get) hok.used h ⟨aQ,aP⟩
  have hlk2:=fun(H':ab)(h:H'.get rs=some (bw (cH vk b.ses)))=>Fl (g:=H'.get) hok.ses h ⟨aQ,aP,aW⟩
  have hmany:=hok.many
  have heo:eV (qy b (⟨bh,⟨aQ,aP,aW⟩,aY,⟨⟨⟨bc,ba,bf⟩,bg⟩,au⟩,⟨⟨az,ay,ax⟩,aw⟩,⟨aC,aA⟩,al⟩:bG) 0 y).dZ=eV b.dZ++[.agg [a8 bh,a8 aQ,aG aP,a8 aW,aI aY,a8 bc,aG ba,a8 bf,aI bg,aI au,a8 az,aG ay,a8 ax,aI aw,a8 aC,aG aA,y]]:=by simp[qy,eV,FQ]
  have hds:(qy b (⟨bh,⟨aQ,aP,aW⟩,aY,⟨⟨⟨bc,ba,bf⟩,bg⟩,au⟩,⟨⟨az,ay,ax⟩,aw⟩,⟨aC,aA⟩,al⟩:bG) 0 y).ses=fJ ⟨aQ,aP,aW⟩ (vS.av { oJ (bZ ⟨aQ,aP,aW⟩ b.ses)with s:=IntKind.i64.wrap ((oJ (bZ ⟨aQ,aP,aW⟩ b.ses)).s+1)}) b.ses:=rfl
  have hdu:(qy b (⟨bh,⟨aQ,aP,aW⟩,aY,⟨⟨⟨bc,ba,bf⟩,bg⟩,au⟩,⟨⟨az,ay,ax⟩,aw⟩,⟨aC,aA⟩,al⟩:bG) 0 y).used=fJ ⟨aQ,aP⟩ (vR.av { oz (bZ ⟨aQ,aP⟩ b.used)with ops:=IntKind.i64.wrap ((oz (bZ ⟨aQ,aP⟩ b.used)).ops+1),cells:=if bh=1 then IntKind.i64.wrap ((oz (bZ ⟨aQ,aP⟩ b.used)).cells+au) else (oz (bZ ⟨aQ,aP⟩ b.used)).cells}) b.used:=by
   simp[qy,vu,jf]
  have hol:=sR b.dZ
  generalize oz (bZ ⟨aQ,aP⟩ b.used)=uu at *
  obtain⟨u1,u2,u3⟩:=uu
  generalize oJ (bZ ⟨aQ,aP,aW⟩ b.ses)=ss at *
  obtain⟨t1,t2,t3⟩:=ss
  have dZ:=hb.dZ
  have h43:=hb.t43
  have happ:=fun H' xh'=>jr.app (H':=H') (xh':=xh') (b':=qy b (⟨bh,⟨aQ,aP,aW⟩,aY,⟨⟨⟨bc,ba,bf⟩,bg⟩,au⟩,⟨⟨az,ay,ax⟩,aw⟩,⟨aC,aA⟩,al⟩:bG) 0 y) hb rfl rfl
  rw[hds,hdu,heo]at happ
  simp only[vS.av,vR.av]at happ
  clear hds hdu heo hb h4 h5
  have hbx : ∀(xh':AV)(H':ab),H'.get rb=some ⟨10,[.agg [xu,xq,aI gr0,yu,yq,aI b.gr,xr,.mp rs,.mp ru,xh']],false,false⟩ →∀xu xq yu yq,H.get rb=some ⟨10,[.agg [xu,xq,aI gr0,yu,yq,aI b.gr,xr,.mp rs,.mp ru,xh]],false,false⟩→H'.get rb=some ⟨10,[.agg [xu,xq,aI gr0,yu,yq,aI b.gr,xr,.mp rs,.mp ru,xh']],false,false⟩:=by
   intro xh' H' h xu' xq' yu' yq' h'
   rw[h1]at h'
   simp only[Option.some.injEq,bN.mk.injEq,List.cons.injEq,AV.agg.injEq,and_true,true_and]at h'
   obtain⟨rfl,rfl,rfl,rfl⟩:=h'
   exact h
  have hQ : ∀(H':ab)(xh':AV),Fr H'→H'.get rs=some (bw (cH vk (fJ ⟨aQ,aP,aW⟩ (.agg [aB t1,aI t2,aI (IntKind.i64.wrap (t3+1))]) b.ses))) →
   H'.get ru=some (bw (cH tF (fJ ⟨aQ,aP⟩ (.agg [a8 0,aG 0,aI u1,aI (IntKind.i64.wrap (u2+1)),aI (if bh=1 then IntKind.i64.wrap (u3+au) else u3)]) b.used)))→Own 17 (eV b.dZ++[.agg [a8 bh,a8 aQ,aG aP,a8 aW,aI aY,a8 bc,aG ba,a8 bf,aI bg,aI au,a8 az,aG ay,a8 ax,aI aw,a8 aC,aG aA,y]]) H' xh'→(∀r,xh'.at?=some r→r.t=43) →
   H'.get rb=some ⟨10,[.agg [xu,xq,aI gr0,yu,yq,aI b.gr,xr,.mp rs,.mp ru,xh']],false,false⟩→(∀q c,H.get q=some c→xh'.at?≠some q∧(q≠rb→q≠rs→q≠ru→xh.at?≠some q→H'.get q=some c)) →
   ∃xh',jr H' rb rs ru xh' xr us0 qs gr0 (qy b (⟨bh,⟨aQ,aP,aW⟩,aY,⟨⟨⟨bc,ba,bf⟩,bg⟩,au⟩,⟨⟨az,ay,ax⟩,aw⟩,⟨aC,aA⟩,al⟩:bG) 0 y)∧K0 H H' rb rs ru xh xh' :=
   fun H' xh' a1 a2 a3 a4 at' a5 a6=>⟨xh',happ H' xh' a1 a2 a3 a4 at' (hbx _ _ a5) a6⟩
  clear happ hbx
  generalize eV b.dZ=eo at *
  generalize b.dZ.length=nh at *
  clear hok
  generalize qy b (⟨bh,⟨aQ,aP,aW⟩,aY,⟨⟨⟨bc,ba,bf⟩,bg⟩,au⟩,⟨⟨az,ay,ax⟩,aw⟩,⟨aC,aA⟩,al⟩:bG) 0 y=B' at *
  revert hQ
  rcases dZ with ⟨rfl,rfl⟩ | ⟨r,rfl,h8⟩
  ·clear hol h43 hmany nh
   by_cases hk1:bh=1
   ·subst hk1
    simp[ah,ai,ae,af,ad, *,gR,hx.r,h1,h6,h7,hlk,hlk2,vS.av,vR.av,kH,nJ,gJ,rV]
    intro hQ
    refine y5 (l:=b.ses) ?_ ⟨aQ,aP,aW⟩ fun i1 m1 he1 z1=>?_
    ·clear hQ;exact by simp(maxDischargeDepth:=12) [ab.get_put,aq,an,Fr.nil,aD,ah,ai,ae,af,ar,ao,ad, *]
    revert hQ
    simp[ah,ai,ae,af,ad, *,ab.get_put,he1]
    intro hQ
    refine y4 (l:=b.used) ?_ ⟨aQ,aP⟩ fun i2 m2 he2 z2=>?_
    ·clear hQ;exact by simp(maxDischargeDepth:=12) [ab.get_put,aq,an,Fr.nil,aD,ah,ai,ae,af,ar,ao,ad, *]
    revert hQ
    simp[ah,ai,ae,af,ad, *,ab.get_put,he2]
    intro hQ
    clear hlk hlk2 he1 he2
    refine hQ _ (.cM ⟨dep+1,43,H.gen (dep+1) 43,0⟩ 0 1 none) ?_ ?_ ?_ (.inr ⟨⟨dep+1,43,H.gen (dep+1) 43,0⟩,rfl,?_⟩) (fun r hr=>by cases hr;rfl) ?_ fun q cc hq=>⟨?_,fun n1 n2 n3=>?_⟩
    ·clear hQ;exact by simp(maxDischargeDepth:=12) [ab.get_put,aq,an,Fr.nil,aD,ah,ai,ae,af,ar,ao,ad, *]
    ·clear hQ;exact by simp(maxDischargeDepth:=12) [ab.get_put,aq,an,Fr.nil,aD,ah,ai,ae,af,ar,ao,ad, *]
    ·clear hQ;exact by simp(maxDischargeDepth:=12) [ab.get_put,aq,an,Fr.nil,aD,ah,ai,ae,af,ar,ao,ad, *]
    ·clear hQ;exact by simp(maxDischargeDepth:=12) [ab.get_put,aq,an,Fr.nil,aD,ah,ai,ae,af,ar,ao,ad, *]
    ·clear hQ;exact by simp(maxDischargeDepth:=12) [ab.get_put,aq,an,Fr.nil,aD,ah,ai,ae,af,ar,ao,ad, *]
    ·clear hQ
     have lq:(H.get q).isSome=true:=by rw[hq];rfl
     simp[AV.at?,ah hF lq]
    ·clear hQ
     have lq:(H.get q).isSome=true:=by rw[hq];rfl
     simp[ah hF lq,ab.get_put,n1,n2,n3,fun e=>n1 (Eq.symm e),fun e=>n2 (Eq.symm e),fun e=>n3 (Eq.symm e),hq]
   ·simp only[hk1,if_false]
    simp[ah,ai,ae,af,ad, *,gR,hx.r,h1,h6,h7,hlk,hlk2,vS.av,vR.av,kH,nJ,gJ,rV,hk1]
    intro hQ
    refine y5 (l:=b.ses) ?_ ⟨aQ,aP,aW⟩ fun i1 m1 he1 z1=>?_
    ·clear hQ;exact by simp(maxDischargeDepth:=12) [ab.get_put,aq,an,Fr.nil,aD,ah,ai,ae,af,ar,ao,ad, *]
    revert hQ
    simp[ah,ai,ae,af,ad, *,ab.get_put,he1]
    intro hQ
    refine y4 (l:=b.used) ?_ ⟨aQ,aP⟩ fun i2 m2 he2 z2=>?_
    ·clear hQ;exact by simp(maxDischargeDepth:=12) [ab.get_put,aq,an,Fr.nil,aD,ah,ai,ae,af,ar,ao,ad, *]
    revert hQ
    simp[ah,ai,ae,af,ad, *,ab.get_put,he2]
    intro hQ
    clear hlk hlk2 he1 he2
    refine hQ _ (.cM ⟨dep+1,43,H.gen (dep+1) 43,0⟩ 0 1 none) ?_ ?_ ?_ (.inr ⟨⟨dep+1,43,H.gen (dep+1) 43,0⟩,rfl,?_⟩) (fun r hr=>by cases hr;rfl) ?_ fun q cc hq=>⟨?_,fun n1 n2 n3=>?_⟩
    ·clear hQ;exact by simp(maxDischargeDepth:=12) [ab.get_put,aq,an,Fr.nil,aD,ah,ai,ae,af,ar,ao,ad, *]
    ·clear hQ;exact by simp(maxDischargeDepth:=12) [ab.get_put,aq,an,Fr.nil,aD,ah,ai,ae,af,ar,ao,ad, *]
    ·clear hQ;exact by simp(maxDischargeDepth:=12) [ab.get_put,aq,an,Fr.nil,aD,ah,ai,ae,af,ar,ao,ad, *]
    ·clear hQ;exact by simp(maxDischargeDepth:=12) [ab.get_put,aq,an,Fr.nil,aD,ah,ai,ae,af,ar,ao,ad, *]
    ·clear hQ;exact by simp(maxDischargeDepth:=12) [ab.get_put,aq,an,Fr.nil,aD,ah,ai,ae,af,ar,ao,ad, *]
    ·clear hQ
     have lq:(H.get q).isSome=true:=by rw[hq];rfl
     simp[AV.at?,ah hF lq]
    ·clear hQ
     have lq:(H.get q).isSome=true:=by rw[hq];rfl
     simp[ah hF lq,ab.get_put,n1,n2,n3,fun e=>n1 (Eq.symm e),fun e=>n2 (Eq.symm e),fun e=>n3 (Eq.symm e),hq]
  ·have f4:mN 17 112 nh true none (some ⟨17,eo,true,false⟩) (some [.agg [a8 bh,a8 aQ,aG aP,a8 aW,aI aY,a8 bc,aG ba,a8 bf,aI bg,aI au,a8 az,aG ay,a8 ax,aI aw,a8 aC,aG aA,y]]):=by
    simp;omega
   have e43:=h43 r rfl
   clear h43
   obtain⟨rd,rt,rg,rk⟩:=r
   simp only at e43
   subst e43
   have l8:(H.get ⟨rd,43,rg,rk⟩).isSome=true:=by rw[h8];rfl
   have nr1:(⟨rd,43,rg,rk⟩:Ref)≠rb:=fun e=>s4 (by rw[e];rfl)
   have nr2:(⟨rd,43,rg,rk⟩:Ref)≠rs:=fun e=>s5 (by rw[e];rfl)
   have nr3:(⟨rd,43,rg,rk⟩:Ref)≠ru:=fun e=>s6 (by rw[e];rfl)
   have nr1':=nr1.symm
   have nr2':=nr2.symm
   have nr3':=nr3.symm
   clear s4 s5 s6
   by_cases hk1:bh=1
   ·subst hk1
    simp[ah,ai,ae,af,ad, *,gR,hx.r,h1,h6,h7,hlk,hlk2,vS.av,vR.av,kH,nJ,gJ,rV]
    intro hQ
    refine y5 (l:=b.ses) ?_ ⟨aQ,aP,aW⟩ fun i1 m1 he1 z1=>?_
    ·clear hQ;exact by simp(maxDischargeDepth:=12) [ab.get_put,aq,an,Fr.nil,aD,ah,ai,ae,af,ar,ao,ad, *]
    revert hQ
    simp[ah,ai,ae,af,ad, *,ab.get_put,he1]
    intro hQ
    refine y4 (l:=b.used) ?_ ⟨aQ,aP⟩ fun i2 m2 he2 z2=>?_
    ·clear hQ;exact by simp(maxDischargeDepth:=12) [ab.get_put,aq,an,Fr.nil,aD,ah,ai,ae,af,ar,ao,ad, *]
    revert hQ
    simp[ah,ai,ae,af,ad, *,ab.get_put,he2]
    intro hQ
    clear hlk hlk2 he1 he2
    refine hQ _ (.cM ⟨rd,43,H.gen rd 43,0⟩ 0 (nh+1) none) ?_ ?_ ?_ (.inr ⟨⟨rd,43,H.gen rd 43,0⟩,by simp[hol],?_⟩) (fun r hr=>by cases hr;rfl) ?_ fun q cc hq=>⟨?_,fun n1 n2 n3 n4=>?_⟩
    ·clear hQ;exact by simp(maxDischargeDepth:=12) [ab.get_put,aq,an,Fr.nil,aD,ah,ai,ae,af,ar,ao,ad, *]
    ·clear hQ;exact by simp(maxDischargeDepth:=12) [ab.get_put,aq,an,Fr.nil,aD,ah,ai,ae,af,ar,ao,ad, *]
    ·clear hQ;exact by simp(maxDischargeDepth:=12) [ab.get_put,aq,an,Fr.nil,aD,ah,ai,ae,af,ar,ao,ad, *]
    ·clear hQ;exact by simp(maxDischargeDepth:=12) [ab.get_put,aq,an,Fr.nil,aD,ah,ai,ae,af,ar,ao,ad, *]
    ·clear hQ;exact by simp(maxDischargeDepth:=12) [ab.get_put,aq,an,Fr.nil,aD,ah,ai,ae,af,ar,ao,ad, *]
    ·clear hQ
     have lq:(H.get q).isSome=true:=by rw[hq];rfl
     simp[AV.at?,ah hF lq]
    ·clear hQ
     have lq:(H.get q).isSome=true:=by rw[hq];rfl
     simp[ah hF lq,ab.get_put,n1,n2,n3,fun e=>n1 (Eq.symm e),fun e=>n2 (Eq.symm e),fun e=>n3 (Eq.symm e),hq]
     all_goals (intro e;exact n4 (by first | exact e.symm | (rw[e];rfl)))
   ·simp only[hk1,if_false]
    simp[ah,ai,ae,af,ad, *,gR,hx.r,h1,h6,h7,hlk,hlk2,vS.av,vR.av,kH,nJ,gJ,rV,hk1]
    intro hQ
    refine y5 (l:=b.ses) ?_ ⟨aQ,aP,aW⟩ fun i1 m1 he1 z1=>?_
    ·clear hQ;exact by simp(maxDischargeDepth:=12) [ab.get_put,aq,an,Fr.nil,aD,ah,ai,ae,af,ar,ao,ad, *]
    revert hQ
    simp[ah,ai,ae,af,ad, *,ab.get_put,he1]
    intro hQ
    refine y4 (l:=b.used) ?_ ⟨aQ,aP⟩ fun i2 m2 he2 z2=>?_
    ·clear hQ;exact by simp(maxDischargeDepth:=12) [ab.get_put,aq,an,Fr.nil,aD,ah,ai,ae,af,ar,ao,ad, *]
    revert hQ
    simp[ah,ai,ae,af,ad, *,ab.get_put,he2]
    intro hQ
    clear hlk hlk2 he1 he2
    refine hQ _ (.cM ⟨rd,43,H.gen rd 43,0⟩ 0 (nh+1) none) ?_ ?_ ?_ (.inr ⟨⟨rd,43,H.gen rd 43,0⟩,by simp[hol],?_⟩) (fun r hr=>by cases hr;rfl) ?_ fun q cc hq=>⟨?_,fun n1 n2 n3 n4=>?_⟩
    ·clear hQ;exact by simp(maxDischargeDepth:=12) [ab.get_put,aq,an,Fr.nil,aD,ah,ai,ae,af,ar,ao,ad, *]
    ·clear hQ;exact by simp(maxDischargeDepth:=12) [ab.get_put,aq,an,Fr.nil,aD,ah,ai,ae,af,ar,ao,ad, *]
    ·clear hQ;exact by simp(maxDischargeDepth:=12) [ab.get_put,aq,an,Fr.nil,aD,ah,ai,ae,af,ar,ao,ad, *]
    ·clear hQ;exact by simp(maxDischargeDepth:=12) [ab.get_put,aq,an,Fr.nil,aD,ah,ai,ae,af,ar,ao,ad, *]
    ·clear hQ;exact by simp(maxDischargeDepth:=12) [ab.get_put,aq,an,Fr.nil,aD,ah,ai,ae,af,ar,ao,ad, *]
    ·clear hQ
     have lq:(H.get q).isSome=true:=by rw[hq];rfl
     simp[AV.at?,ah hF lq]
    ·clear hQ
     have lq:(H.get q).isSome=true:=by rw[hq];rfl
     simp[ah hF lq,ab.get_put,n1,n2,n3,fun e=>n1 (Eq.symm e),fun e=>n2 (Eq.symm e),fun e=>n3 (Eq.symm e),hq]
     all_goals (intro e;exact n4 (by first | exact e.symm | (rw[e];rfl)))
 obtain⟨z,H',h1,rfl,xh',h2,h3⟩:=my (f:=77) (by kernel_rfl) (by kernel_rfl) (by kernel_rfl) (by kernel_rfl) (by kernel_rfl) hgo
 exact⟨H',xh',h1,h2,h3⟩
end
end Go.Proofs.YtdbiffjdomokfaaGreat
