/-
  What a log tells, under way: what an operation does. No statement of a seat is proved here.
-/
import Derived.Test.YtmkmimgokagimaaGreatLeDo
set_option linter.unusedVariables false
set_option linter.unusedSimpArgs false
set_option linter.unusedSectionVars false
set_option linter.unnecessarySimpa false
set_option maxRecDepth 100000
namespace Go.Proofs.YtmkmimgokagimaaGreat
open Go.Ab
attribute [local simp] bj aL aF bg bf keep thr bx aT bc da cZ cJ bD aD bM List.take_of_length_le
theorem BookX.app{H H':Heap}{rb rs ru:Ref}{xh xh' xr:AV}{us0:List Clear}{qs:List Quota}{gr0:Int}{b b':Book}(h:BookX H rb rs ru xh xr us0 qs gr0 b)(hu:b'.us=b.us)(hg:b'.gr=b.gr)
 (hF:Fr H') (h1:H'.get rs=some (bm (cX hanK b'.ses))) (h2:H'.get ru=some (bm (cX labK b'.used))) (hh:Own 17 (fZ b'.hist) H' xh') (ht : ∀r,xh'.at?=some r→r.t=43)
 (hbx : ∀xu xq yu yq,H.get rb=some ⟨10,[.agg [xu,xq,aI gr0,yu,yq,aI b.gr,xr,.mp rs,.mp ru,xh]],false,false⟩→H'.get rb=some ⟨10,[.agg [xu,xq,aI gr0,yu,yq,aI b.gr,xr,.mp rs,.mp ru,xh']],false,false⟩)
 (hk : ∀q c,H.get q=some c→xh'.at?≠some q∧(q≠rb→q≠rs→q≠ru→xh.at?≠some q→H'.get q=some c)) :
 BookX H' rb rs ru xh' xr us0 qs gr0 b'∧Did H H' rb rs ru xh xh':=by
 obtain⟨xu,xq,yu,yq,wu,wq,e1,e2,e3,e4,e5⟩:=h.box
 have hz : ∀q c,H.get q=some c→c.frz=true→H'.get q=some c:=by
  intro q c hq hf
  refine(hk q c hq).2 ?_ ?_ ?_ ?_
  ·rintro rfl;rw[e1]at hq;cases hq;exact absurd hf (by simp)
  ·rintro rfl;rw[h.ses]at hq;cases hq;exact absurd hf (by simp[bm])
  ·rintro rfl;rw[h.use]at hq;cases hq;exact absurd hf (by simp[bm])
  ·intro e
   rcases h.hist with ⟨rfl,_⟩ | ⟨r,rfl,hr⟩
   ·cases e
   ·simp only[AV.at?,Option.some.injEq]at e;subst e;rw[hr]at hq;cases hq;exact absurd hf (by simp)
 refine⟨⟨⟨xu,xq,yu,yq,wu,wq,?_,e2,e3,?_,e5.keep hz⟩,h1,h2,hh,h.one,⟨h.sep.1,h.sep.2.1,h.sep.2.2.1,(hk _ _ e1).1,(hk _ _ h.ses).1,(hk _ _ h.use).1⟩,ht⟩,⟨hF,fun q c hq n1 n2 n3 n4=>⟨(hk q c hq).2 n1 n2 n3 n4,(hk q c hq).1⟩⟩⟩
 ·rw[hg];exact hbx _ _ _ _ e1
 ·rw[hu];exact e4.keep hz
theorem zX{H:Heap}{rs:Ref}{l:List (Han × AV)}(hr:H.get rs=some (bm (cX hanK l)))(h:Han){K:AV→Heap→Prop}{m:Mk (dy env.P H 126 (some (.mp rs)) (some (.agg [a8 h.lv,a32 h.cats,a8 h.num])),K)}
 (hk : ∀(i:Nat) l',(∀(H':Heap) x,H'.get rs=some (bm (cX hanK l'))→cB H' (some (.mp rs)) (some (aI i)) (some x)=some (AV.undef,H'.put rs (some (bm (cX hanK (setK h x l)))))) →∀z,K (.tup [z,aI i]) (H.put rs (some (bm (cX hanK l'))))) :
 doW (dy env.P H 126 (some (.mp rs)) (some (.agg [a8 h.lv,a32 h.cats,a8 h.num]))) K m:=by
 obtain⟨i,l',e1,⟨x0,e2⟩,e3⟩:=uE E3 CH (t:=126) (et:=73) (by kernel_rfl) (z := .agg [aB false,aI 0,aI 0]) (by kernel_rfl) hr h
 refine DY e1 (hk i l' (fun H' x h'=>?_) _)
 rw[←e3 x]
 exact q7 h' e2 _ x
theorem zW{H:Heap}{ru:Ref}{l:List (Lab × AV)}(hr:H.get ru=some (bm (cX labK l)))(v:Lab){K:AV→Heap→Prop}{m:Mk (dy env.P H 127 (some (.mp ru)) (some (.agg [a8 v.lv,a32 v.cats])),K)}
 (hk : ∀(i:Nat) l',(∀(H':Heap) x,H'.get ru=some (bm (cX labK l'))→cB H' (some (.mp ru)) (some (aI i)) (some x)=some (AV.undef,H'.put ru (some (bm (cX labK (setK v x l)))))) →∀z,K (.tup [z,aI i]) (H.put ru (some (bm (cX labK l'))))) :
 doW (dy env.P H 127 (some (.mp ru)) (some (.agg [a8 v.lv,a32 v.cats]))) K m:=by
 obtain⟨i,l',e1,⟨x0,e2⟩,e3⟩:=uE E2 CE (t:=127) (et:=81) (by kernel_rfl) (z := .agg [a8 0,a32 0,aI 0,aI 0,aI 0]) (by kernel_rfl) hr v
 refine DY e1 (hk i l' (fun H' x h'=>?_) _)
 rw[←e3 x]
 exact q7 h' e2 _ x
section
variable(dep:Nat){H:Heap}(hF:Fr H){rb rs ru:Ref}{xh xr:AV}{us0:List Clear}{qs:List Quota}{gr0:Int}{b:Book}(hb:BookX H rb rs ru xh xr us0 qs gr0 b)(hok:BookOk b)
include hF hb hok
theorem Sy(k:UInt8)(u:Int)(a_1:UInt8)(a_2:UInt8)(a_3:UInt32)(a_4:UInt8)(a_5:Int)(a_6:UInt8)(a_7:UInt32)(a_8:UInt8)(a_9:Int)(a_10:Int)(a_11:UInt8)(a_12:UInt32)(a_13:UInt8)(a_14:Int)(a_15:UInt8)(a_16:UInt32)(c g1:Int)(v:UInt8)(w:UInt32)(o:Bool){x:AV}{al:List Int}(hx:Sl 1 (rows al) x)(hc:c≠0) :
 ∃H',limt env dep (.fn 150) [.ptr rb 0 0,.agg [a8 k,aI u,a8 a_1,a8 a_2,a32 a_3,a8 a_4,aI a_5,a8 a_6,a32 a_7,a8 a_8,aI a_9,aI a_10,a8 a_11,a32 a_12,a8 a_13,aI a_14,a8 a_15,a32 a_16,x,aI c,aI g1,a8 v,a32 w,aB o]] H=some (.v (.tuple #[]),H')∧BookX H' rb rs ru xh xr us0 qs gr0 (doOp b (⟨a_1,⟨a_2,a_3,a_4⟩,a_5,⟨⟨⟨a_6,a_7,a_8⟩,a_9⟩,a_10⟩,⟨⟨a_11,a_12,a_13⟩,a_14⟩,⟨a_15,a_16⟩,al⟩:Opn) c aNil)∧Did H H' rb rs ru xh xh:=by
 have hgo:GoL env Tryz.f150 (dep+1) [.code mc] (q0 0 [.ptr rb 0 0,.agg [a8 k,aI u,a8 a_1,a8 a_2,a32 a_3,a8 a_4,aI a_5,a8 a_6,a32 a_7,a8 a_8,aI a_9,aI a_10,a8 a_11,a32 a_12,a8 a_13,aI a_14,a8 a_15,a32 a_16,x,aI c,aI g1,a8 v,a32 w,aB o]]) H fun y H1=>y = .v (.tuple #[])∧BookX H1 rb rs ru xh xr us0 qs gr0 (doOp b (⟨a_1,⟨a_2,a_3,a_4⟩,a_5,⟨⟨⟨a_6,a_7,a_8⟩,a_9⟩,a_10⟩,⟨⟨a_11,a_12,a_13⟩,a_14⟩,⟨a_15,a_16⟩,al⟩:Opn) c aNil)∧Did H H1 rb rs ru xh xh:=by
  refine oR _ _ _ _ _ fun g=>?_
  have hup:=fun H'=>hb.upd (H':=H') (b':=doOp b (⟨a_1,⟨a_2,a_3,a_4⟩,a_5,⟨⟨⟨a_6,a_7,a_8⟩,a_9⟩,a_10⟩,⟨⟨a_11,a_12,a_13⟩,a_14⟩,⟨a_15,a_16⟩,al⟩:Opn) c aNil) rfl rfl (by simp[doOp,hc])
  obtain⟨xu,xq,yu,yq,wu,wq,h1,h2,h3,h4,h5⟩:=hb.box
  have h6:=hb.ses
  have h7:=hb.use
  have c4:=h4.s.cells
  have c5:=h5.s.cells
  have c8:xh.cells=[xh]∧xh.one=true:=by obtain⟨_,hs⟩:=jG hb.hist;exact hs.cells
  have c9:=hb.one
  have l1:(H.get rb).isSome=true:=by rw[h1];rfl
  have l6:(H.get rs).isSome=true:=by rw[h6];rfl
  have l7:(H.get ru).isSome=true:=by rw[h7];rfl
  obtain⟨s1,s2,s3,_⟩:=hb.sep
  have s1':=s1.symm
  have s2':=s2.symm
  have s3':=s3.symm
  have hlk:=fun(H':Heap)(h:H'.get ru=some (bm (cX labK b.used)))=>Bs (g:=H'.get) hok.used h ⟨a_2,a_3⟩
  have hlk2:=fun(H':Heap)(h:H'.get rs=some (bm (cX hanK b.ses)))=>Dq (g:=H'.get) hok.ses h ⟨a_2,a_3,a_4⟩
  simp only[doOp,Kf,s8,nG,hc,false_and,if_false]at hup
  unfold doOp Kf s8 nG
  simp only[hc,false_and,if_false]
  generalize useD (bE ⟨a_2,a_3⟩ b.used)=uu at *
  obtain⟨u1,u2,u3⟩:=uu
  generalize sesD (bE ⟨a_2,a_3,a_4⟩ b.ses)=ss at *
  obtain⟨t1,t2,t3⟩:=ss
  clear hb h4 h5 hok
  simp only[Ses.av,Use.av]at hup
  simp[af,ah,ad,ae,ab, *,fj,hx.r,h1,h6,h7,hlk,hlk2,Ses.av,Use.av,jn,kq,iH,tk,hc]
  refine zX (l:=b.ses) ?_ ⟨a_2,a_3,a_4⟩ fun i1 m1 he1 z1=>?_
  ·exact by simp(maxDischargeDepth:=12) [Heap.an,au,ak,Fr.nil,az,af,ah,ad,ae,ar,ao,ab, *]
  simp[af,ah,ad,ae,ab, *,Heap.an,he1]
  refine zW (l:=b.used) ?_ ⟨a_2,a_3⟩ fun i2 m2 he2 z2=>?_
  ·exact by simp(maxDischargeDepth:=12) [Heap.an,au,ak,Fr.nil,az,af,ah,ad,ae,ar,ao,ab, *]
  simp[af,ah,ad,ae,ab, *,Heap.an,he2]
  clear hlk hlk2 he1 he2
  refine hup _ ?_ ?_ ?_ fun q cc hq n1 n2=>?_
  ·exact by simp(maxDischargeDepth:=12) [Heap.an,au,ak,Fr.nil,az,af,ah,ad,ae,ar,ao,ab, *]
  ·exact by simp(maxDischargeDepth:=12) [Heap.an,au,ak,Fr.nil,az,af,ah,ad,ae,ar,ao,ab, *]
  ·exact by simp(maxDischargeDepth:=12) [Heap.an,au,ak,Fr.nil,az,af,ah,ad,ae,ar,ao,ab, *]
  ·have lq:(H.get q).isSome=true:=by rw[hq];rfl
   simp[af hF lq,Heap.an,n1,n2,n1.symm,n2.symm,hq]
 obtain⟨y,H',h1,rfl,h2⟩:=iw (by kernel_rfl) (by kernel_rfl) (by kernel_rfl) (by kernel_rfl) (by kernel_rfl) hgo
 exact⟨H',h1,h2⟩
theorem O1(k:UInt8)(u:Int)(a_1:UInt8)(a_2:UInt8)(a_3:UInt32)(a_4:UInt8)(a_5:Int)(a_6:UInt8)(a_7:UInt32)(a_8:UInt8)(a_9:Int)(a_10:Int)(a_11:UInt8)(a_12:UInt32)(a_13:UInt8)(a_14:Int)(a_15:UInt8)(a_16:UInt32)(g1:Int)(v:UInt8)(w:UInt32)(o:Bool){x:AV}{al:List Int}(hx:Sl 1 (rows al) x)(hal:al.length<1000000) :
 ∃H' xh',limt env dep (.fn 150) [.ptr rb 0 0,.agg [a8 k,aI u,a8 a_1,a8 a_2,a32 a_3,a8 a_4,aI a_5,a8 a_6,a32 a_7,a8 a_8,aI a_9,aI a_10,a8 a_11,a32 a_12,a8 a_13,aI a_14,a8 a_15,a32 a_16,x,aI 0,aI g1,a8 v,a32 w,aB o]] H=some (.v (.tuple #[]),H')∧BookX H' rb rs ru xh' xr us0 qs gr0 (doOp b (⟨a_1,⟨a_2,a_3,a_4⟩,a_5,⟨⟨⟨a_6,a_7,a_8⟩,a_9⟩,a_10⟩,⟨⟨a_11,a_12,a_13⟩,a_14⟩,⟨a_15,a_16⟩,al⟩:Opn) 0 (lQ x))∧Did H H' rb rs ru xh xh':=by
 obtain⟨y,ht,hy,hT⟩:=zb a_1 a_2 a_3 a_4 a_5 a_6 a_7 a_8 a_9 a_10 a_11 a_12 a_13 a_14 a_15 a_16 hx hal
 rw[←ht]
 clear ht
 have hgo:GoL env Tryz.f150 (dep+1) [.code mc] (q0 0 [.ptr rb 0 0,.agg [a8 k,aI u,a8 a_1,a8 a_2,a32 a_3,a8 a_4,aI a_5,a8 a_6,a32 a_7,a8 a_8,aI a_9,aI a_10,a8 a_11,a32 a_12,a8 a_13,aI a_14,a8 a_15,a32 a_16,x,aI 0,aI g1,a8 v,a32 w,aB o]]) H fun z H1=>z = .v (.tuple #[]) ∧∃xh',BookX H1 rb rs ru xh' xr us0 qs gr0 (doOp b (⟨a_1,⟨a_2,a_3,a_4⟩,a_5,⟨⟨⟨a_6,a_7,a_8⟩,a_9⟩,a_10⟩,⟨⟨a_11,a_12,a_13⟩,a_14⟩,⟨a_15,a_16⟩,al⟩:Opn) 0 y)∧Did H H1 rb rs ru xh xh':=by
  refine oR _ _ _ _ _ fun g=>?_
  obtain⟨xu,xq,yu,yq,wu,wq,h1,h2,h3,h4,h5⟩:=hb.box
  have h6:=hb.ses
  have h7:=hb.use
  have c4:=h4.s.cells
  have c5:=h5.s.cells
  have c8:xh.cells=[xh]∧xh.one=true:=by obtain⟨_,hs⟩:=jG hb.hist;exact hs.cells
  have c9:=hb.one
  have l1:(H.get rb).isSome=true:=by rw[h1];rfl
  have l6:(H.get rs).isSome=true:=by rw[h6];rfl
  have l7:(H.get ru).isSome=true:=by rw[h7];rfl
  have hyr:=hy.r
  obtain⟨s1,s2,s3,s4,s5,s6⟩:=hb.sep
  have s1':=s1.symm
  have s2':=s2.symm
  have s3':=s3.symm
  have hlk:=fun(H':Heap)(h:H'.get ru=some (bm (cX labK b.used)))=>Bs (g:=H'.get) hok.used h ⟨a_2,a_3⟩
  have hlk2:=fun(H':Heap)(h:H'.get rs=some (bm (cX hanK b.ses)))=>Dq (g:=H'.get) hok.ses h ⟨a_2,a_3,a_4⟩
  have hmany:=hok.many
  have heo:fZ (doOp b (⟨a_1,⟨a_2,a_3,a_4⟩,a_5,⟨⟨⟨a_6,a_7,a_8⟩,a_9⟩,a_10⟩,⟨⟨a_11,a_12,a_13⟩,a_14⟩,⟨a_15,a_16⟩,al⟩:Opn) 0 y).hist=fZ b.hist++[.agg [a8 a_1,a8 a_2,a32 a_3,a8 a_4,aI a_5,a8 a_6,a32 a_7,a8 a_8,aI a_9,aI a_10,a8 a_11,a32 a_12,a8 a_13,aI a_14,a8 a_15,a32 a_16,y]]:=by simp[doOp,fZ,encO]
  have hds:(doOp b (⟨a_1,⟨a_2,a_3,a_4⟩,a_5,⟨⟨⟨a_6,a_7,a_8⟩,a_9⟩,a_10⟩,⟨⟨a_11,a_12,a_13⟩,a_14⟩,⟨a_15,a_16⟩,al⟩:Opn) 0 y).ses=setK ⟨a_2,a_3,a_4⟩ (Ses.av { sesD (bE ⟨a_2,a_3,a_4⟩ b.ses)with s:=IntKind.i64.wrap ((sesD (bE ⟨a_2,a_3,a_4⟩ b.ses)).s+1)}) b.ses:=rfl
  have hdu:(doOp b (⟨a_1,⟨a_2,a_3,a_4⟩,a_5,⟨⟨⟨a_6,a_7,a_8⟩,a_9⟩,a_10⟩,⟨⟨a_11,a_12,a_13⟩,a_14⟩,⟨a_15,a_16⟩,al⟩:Opn) 0 y).used=setK ⟨a_2,a_3⟩ (Use.av { useD (bE ⟨a_2,a_3⟩ b.used)with ops:=IntKind.i64.wrap ((useD (bE ⟨a_2,a_3⟩ b.used)).ops+1),cells:=if a_1=1 then IntKind.i64.wrap ((useD (bE ⟨a_2,a_3⟩ b.used)).cells+a_10) else (useD (bE ⟨a_2,a_3⟩ b.used)).cells}) b.used:=by
   simp[doOp,Kf,s8]
  have hol:=rG b.hist
  generalize useD (bE ⟨a_2,a_3⟩ b.used)=uu at *
  obtain⟨u1,u2,u3⟩:=uu
  generalize sesD (bE ⟨a_2,a_3,a_4⟩ b.ses)=ss at *
  obtain⟨t1,t2,t3⟩:=ss
  have hist:=hb.hist
  have h43:=hb.t43
  have happ:=fun H' xh'=>BookX.app (H':=H') (xh':=xh') (b':=doOp b (⟨a_1,⟨a_2,a_3,a_4⟩,a_5,⟨⟨⟨a_6,a_7,a_8⟩,a_9⟩,a_10⟩,⟨⟨a_11,a_12,a_13⟩,a_14⟩,⟨a_15,a_16⟩,al⟩:Opn) 0 y) hb rfl rfl
  rw[hds,hdu,heo]at happ
  simp only[Ses.av,Use.av]at happ
  clear hds hdu heo hb h4 h5
  have hbx : ∀(xh':AV)(H':Heap),H'.get rb=some ⟨10,[.agg [xu,xq,aI gr0,yu,yq,aI b.gr,xr,.mp rs,.mp ru,xh']],false,false⟩ →∀xu xq yu yq,H.get rb=some ⟨10,[.agg [xu,xq,aI gr0,yu,yq,aI b.gr,xr,.mp rs,.mp ru,xh]],false,false⟩→H'.get rb=some ⟨10,[.agg [xu,xq,aI gr0,yu,yq,aI b.gr,xr,.mp rs,.mp ru,xh']],false,false⟩:=by
   intro xh' H' h xu' xq' yu' yq' h'
   rw[h1]at h'
   simp only[Option.some.injEq,Blk.mk.injEq,List.cons.injEq,AV.agg.injEq,and_true,true_and]at h'
   obtain⟨rfl,rfl,rfl,rfl⟩:=h'
   exact h
  have hQ : ∀(H':Heap)(xh':AV),Fr H'→H'.get rs=some (bm (cX hanK (setK ⟨a_2,a_3,a_4⟩ (.agg [aB t1,aI t2,aI (IntKind.i64.wrap (t3+1))]) b.ses))) →
   H'.get ru=some (bm (cX labK (setK ⟨a_2,a_3⟩ (.agg [a8 0,a32 0,aI u1,aI (IntKind.i64.wrap (u2+1)),aI (if a_1=1 then IntKind.i64.wrap (u3+a_10) else u3)]) b.used)))→Own 17 (fZ b.hist++[.agg [a8 a_1,a8 a_2,a32 a_3,a8 a_4,aI a_5,a8 a_6,a32 a_7,a8 a_8,aI a_9,aI a_10,a8 a_11,a32 a_12,a8 a_13,aI a_14,a8 a_15,a32 a_16,y]]) H' xh'→(∀r,xh'.at?=some r→r.t=43) →
   H'.get rb=some ⟨10,[.agg [xu,xq,aI gr0,yu,yq,aI b.gr,xr,.mp rs,.mp ru,xh']],false,false⟩→(∀q c,H.get q=some c→xh'.at?≠some q∧(q≠rb→q≠rs→q≠ru→xh.at?≠some q→H'.get q=some c)) →
   ∃xh',BookX H' rb rs ru xh' xr us0 qs gr0 (doOp b (⟨a_1,⟨a_2,a_3,a_4⟩,a_5,⟨⟨⟨a_6,a_7,a_8⟩,a_9⟩,a_10⟩,⟨⟨a_11,a_12,a_13⟩,a_14⟩,⟨a_15,a_16⟩,al⟩:Opn) 0 y)∧Did H H' rb rs ru xh xh' :=
   fun H' xh' a1 a2 a3 a4 at' a5 a6=>⟨xh',happ H' xh' a1 a2 a3 a4 at' (hbx _ _ a5) a6⟩
  clear happ hbx
  generalize fZ b.hist=eo at *
  generalize b.hist.length=nh at *
  clear hok
  generalize doOp b (⟨a_1,⟨a_2,a_3,a_4⟩,a_5,⟨⟨⟨a_6,a_7,a_8⟩,a_9⟩,a_10⟩,⟨⟨a_11,a_12,a_13⟩,a_14⟩,⟨a_15,a_16⟩,al⟩:Opn) 0 y=B' at *
  revert hQ
  rcases hist with ⟨rfl,rfl⟩ | ⟨r,rfl,h8⟩
  ·clear hol h43 hmany nh
   by_cases hk1:a_1=1
   ·subst hk1
    simp[af,ah,ad,ae,ab, *,fj,hx.r,h1,h6,h7,hlk,hlk2,Ses.av,Use.av,jn,kq,iH,tk]
    intro hQ
    refine zX (l:=b.ses) ?_ ⟨a_2,a_3,a_4⟩ fun i1 m1 he1 z1=>?_
    ·clear hQ;exact by simp(maxDischargeDepth:=12) [Heap.an,au,ak,Fr.nil,az,af,ah,ad,ae,ar,ao,ab, *]
    revert hQ
    simp[af,ah,ad,ae,ab, *,Heap.an,he1]
    intro hQ
    refine zW (l:=b.used) ?_ ⟨a_2,a_3⟩ fun i2 m2 he2 z2=>?_
    ·clear hQ;exact by simp(maxDischargeDepth:=12) [Heap.an,au,ak,Fr.nil,az,af,ah,ad,ae,ar,ao,ab, *]
    revert hQ
    simp[af,ah,ad,ae,ab, *,Heap.an,he2]
    intro hQ
    clear hlk hlk2 he1 he2
    refine hQ _ (.osl ⟨dep+1,43,H.gen (dep+1) 43,0⟩ 0 1 none) ?_ ?_ ?_ (.inr ⟨⟨dep+1,43,H.gen (dep+1) 43,0⟩,rfl,?_⟩) (fun r hr=>by cases hr;rfl) ?_ fun q cc hq=>⟨?_,fun n1 n2 n3=>?_⟩
    ·clear hQ;exact by simp(maxDischargeDepth:=12) [Heap.an,au,ak,Fr.nil,az,af,ah,ad,ae,ar,ao,ab, *]
    ·clear hQ;exact by simp(maxDischargeDepth:=12) [Heap.an,au,ak,Fr.nil,az,af,ah,ad,ae,ar,ao,ab, *]
    ·clear hQ;exact by simp(maxDischargeDepth:=12) [Heap.an,au,ak,Fr.nil,az,af,ah,ad,ae,ar,ao,ab, *]
    ·clear hQ;exact by simp(maxDischargeDepth:=12) [Heap.an,au,ak,Fr.nil,az,af,ah,ad,ae,ar,ao,ab, *]
    ·clear hQ;exact by simp(maxDischargeDepth:=12) [Heap.an,au,ak,Fr.nil,az,af,ah,ad,ae,ar,ao,ab, *]
    ·clear hQ
     have lq:(H.get q).isSome=true:=by rw[hq];rfl
     simp[AV.at?,af hF lq]
    ·clear hQ
     have lq:(H.get q).isSome=true:=by rw[hq];rfl
     simp[af hF lq,Heap.an,n1,n2,n3,fun e=>n1 (Eq.symm e),fun e=>n2 (Eq.symm e),fun e=>n3 (Eq.symm e),hq]
   ·simp only[hk1,if_false]
    simp[af,ah,ad,ae,ab, *,fj,hx.r,h1,h6,h7,hlk,hlk2,Ses.av,Use.av,jn,kq,iH,tk,hk1]
    intro hQ
    refine zX (l:=b.ses) ?_ ⟨a_2,a_3,a_4⟩ fun i1 m1 he1 z1=>?_
    ·clear hQ;exact by simp(maxDischargeDepth:=12) [Heap.an,au,ak,Fr.nil,az,af,ah,ad,ae,ar,ao,ab, *]
    revert hQ
    simp[af,ah,ad,ae,ab, *,Heap.an,he1]
    intro hQ
    refine zW (l:=b.used) ?_ ⟨a_2,a_3⟩ fun i2 m2 he2 z2=>?_
    ·clear hQ;exact by simp(maxDischargeDepth:=12) [Heap.an,au,ak,Fr.nil,az,af,ah,ad,ae,ar,ao,ab, *]
    revert hQ
    simp[af,ah,ad,ae,ab, *,Heap.an,he2]
    intro hQ
    clear hlk hlk2 he1 he2
    refine hQ _ (.osl ⟨dep+1,43,H.gen (dep+1) 43,0⟩ 0 1 none) ?_ ?_ ?_ (.inr ⟨⟨dep+1,43,H.gen (dep+1) 43,0⟩,rfl,?_⟩) (fun r hr=>by cases hr;rfl) ?_ fun q cc hq=>⟨?_,fun n1 n2 n3=>?_⟩
    ·clear hQ;exact by simp(maxDischargeDepth:=12) [Heap.an,au,ak,Fr.nil,az,af,ah,ad,ae,ar,ao,ab, *]
    ·clear hQ;exact by simp(maxDischargeDepth:=12) [Heap.an,au,ak,Fr.nil,az,af,ah,ad,ae,ar,ao,ab, *]
    ·clear hQ;exact by simp(maxDischargeDepth:=12) [Heap.an,au,ak,Fr.nil,az,af,ah,ad,ae,ar,ao,ab, *]
    ·clear hQ;exact by simp(maxDischargeDepth:=12) [Heap.an,au,ak,Fr.nil,az,af,ah,ad,ae,ar,ao,ab, *]
    ·clear hQ;exact by simp(maxDischargeDepth:=12) [Heap.an,au,ak,Fr.nil,az,af,ah,ad,ae,ar,ao,ab, *]
    ·clear hQ
     have lq:(H.get q).isSome=true:=by rw[hq];rfl
     simp[AV.at?,af hF lq]
    ·clear hQ
     have lq:(H.get q).isSome=true:=by rw[hq];rfl
     simp[af hF lq,Heap.an,n1,n2,n3,fun e=>n1 (Eq.symm e),fun e=>n2 (Eq.symm e),fun e=>n3 (Eq.symm e),hq]
  ·have f4:oF 17 112 nh true none (some ⟨17,eo,true,false⟩) (some [.agg [a8 a_1,a8 a_2,a32 a_3,a8 a_4,aI a_5,a8 a_6,a32 a_7,a8 a_8,aI a_9,aI a_10,a8 a_11,a32 a_12,a8 a_13,aI a_14,a8 a_15,a32 a_16,y]]):=by
    simp;omega
   have e43:=h43 r rfl
   clear h43
   obtain⟨rd,rt,rg,rk⟩:=r
   simp only at e43
   subst e43
   have l8:(H.get ⟨rd,43,rg,rk⟩).isSome=true:=by rw[h8];rfl
   have nr1:(⟨rd,43,rg,rk⟩:Ref)≠rb:=fun e=>s4 (by rw[e];rfl)
   have nr2:(⟨rd,43,rg,rk⟩:Ref)≠rs:=fun e=>s5 (by rw[e];rfl)
   have nr3:(⟨rd,43,rg,rk⟩:Ref)≠ru:=fun e=>s6 (by rw[e];rfl)
   have nr1':=nr1.symm
   have nr2':=nr2.symm
   have nr3':=nr3.symm
   clear s4 s5 s6
   by_cases hk1:a_1=1
   ·subst hk1
    simp[af,ah,ad,ae,ab, *,fj,hx.r,h1,h6,h7,hlk,hlk2,Ses.av,Use.av,jn,kq,iH,tk]
    intro hQ
    refine zX (l:=b.ses) ?_ ⟨a_2,a_3,a_4⟩ fun i1 m1 he1 z1=>?_
    ·clear hQ;exact by simp(maxDischargeDepth:=12) [Heap.an,au,ak,Fr.nil,az,af,ah,ad,ae,ar,ao,ab, *]
    revert hQ
    simp[af,ah,ad,ae,ab, *,Heap.an,he1]
    intro hQ
    refine zW (l:=b.used) ?_ ⟨a_2,a_3⟩ fun i2 m2 he2 z2=>?_
    ·clear hQ;exact by simp(maxDischargeDepth:=12) [Heap.an,au,ak,Fr.nil,az,af,ah,ad,ae,ar,ao,ab, *]
    revert hQ
    simp[af,ah,ad,ae,ab, *,Heap.an,he2]
    intro hQ
    clear hlk hlk2 he1 he2
    refine hQ _ (.osl ⟨rd,43,H.gen rd 43,0⟩ 0 (nh+1) none) ?_ ?_ ?_ (.inr ⟨⟨rd,43,H.gen rd 43,0⟩,by simp[hol],?_⟩) (fun r hr=>by cases hr;rfl) ?_ fun q cc hq=>⟨?_,fun n1 n2 n3 n4=>?_⟩
    ·clear hQ;exact by simp(maxDischargeDepth:=12) [Heap.an,au,ak,Fr.nil,az,af,ah,ad,ae,ar,ao,ab, *]
    ·clear hQ;exact by simp(maxDischargeDepth:=12) [Heap.an,au,ak,Fr.nil,az,af,ah,ad,ae,ar,ao,ab, *]
    ·clear hQ;exact by simp(maxDischargeDepth:=12) [Heap.an,au,ak,Fr.nil,az,af,ah,ad,ae,ar,ao,ab, *]
    ·clear hQ;exact by simp(maxDischargeDepth:=12) [Heap.an,au,ak,Fr.nil,az,af,ah,ad,ae,ar,ao,ab, *]
    ·clear hQ;exact by simp(maxDischargeDepth:=12) [Heap.an,au,ak,Fr.nil,az,af,ah,ad,ae,ar,ao,ab, *]
    ·clear hQ
     have lq:(H.get q).isSome=true:=by rw[hq];rfl
     simp[AV.at?,af hF lq]
    ·clear hQ
     have lq:(H.get q).isSome=true:=by rw[hq];rfl
     simp[af hF lq,Heap.an,n1,n2,n3,fun e=>n1 (Eq.symm e),fun e=>n2 (Eq.symm e),fun e=>n3 (Eq.symm e),hq]
     all_goals (intro e;exact n4 (by first | exact e.symm | (rw[e];rfl)))
   ·simp only[hk1,if_false]
    simp[af,ah,ad,ae,ab, *,fj,hx.r,h1,h6,h7,hlk,hlk2,Ses.av,Use.av,jn,kq,iH,tk,hk1]
    intro hQ
    refine zX (l:=b.ses) ?_ ⟨a_2,a_3,a_4⟩ fun i1 m1 he1 z1=>?_
    ·clear hQ;exact by simp(maxDischargeDepth:=12) [Heap.an,au,ak,Fr.nil,az,af,ah,ad,ae,ar,ao,ab, *]
    revert hQ
    simp[af,ah,ad,ae,ab, *,Heap.an,he1]
    intro hQ
    refine zW (l:=b.used) ?_ ⟨a_2,a_3⟩ fun i2 m2 he2 z2=>?_
    ·clear hQ;exact by simp(maxDischargeDepth:=12) [Heap.an,au,ak,Fr.nil,az,af,ah,ad,ae,ar,ao,ab, *]
    revert hQ
    simp[af,ah,ad,ae,ab, *,Heap.an,he2]
    intro hQ
    clear hlk hlk2 he1 he2
    refine hQ _ (.osl ⟨rd,43,H.gen rd 43,0⟩ 0 (nh+1) none) ?_ ?_ ?_ (.inr ⟨⟨rd,43,H.gen rd 43,0⟩,by simp[hol],?_⟩) (fun r hr=>by cases hr;rfl) ?_ fun q cc hq=>⟨?_,fun n1 n2 n3 n4=>?_⟩
    ·clear hQ;exact by simp(maxDischargeDepth:=12) [Heap.an,au,ak,Fr.nil,az,af,ah,ad,ae,ar,ao,ab, *]
    ·clear hQ;exact by simp(maxDischargeDepth:=12) [Heap.an,au,ak,Fr.nil,az,af,ah,ad,ae,ar,ao,ab, *]
    ·clear hQ;exact by simp(maxDischargeDepth:=12) [Heap.an,au,ak,Fr.nil,az,af,ah,ad,ae,ar,ao,ab, *]
    ·clear hQ;exact by simp(maxDischargeDepth:=12) [Heap.an,au,ak,Fr.nil,az,af,ah,ad,ae,ar,ao,ab, *]
    ·clear hQ;exact by simp(maxDischargeDepth:=12) [Heap.an,au,ak,Fr.nil,az,af,ah,ad,ae,ar,ao,ab, *]
    ·clear hQ
     have lq:(H.get q).isSome=true:=by rw[hq];rfl
     simp[AV.at?,af hF lq]
    ·clear hQ
     have lq:(H.get q).isSome=true:=by rw[hq];rfl
     simp[af hF lq,Heap.an,n1,n2,n3,fun e=>n1 (Eq.symm e),fun e=>n2 (Eq.symm e),fun e=>n3 (Eq.symm e),hq]
     all_goals (intro e;exact n4 (by first | exact e.symm | (rw[e];rfl)))
 obtain⟨z,H',h1,rfl,xh',h2,h3⟩:=iw (by kernel_rfl) (by kernel_rfl) (by kernel_rfl) (by kernel_rfl) (by kernel_rfl) hgo
 exact⟨H',xh',h1,h2,h3⟩
end
end Go.Proofs.YtmkmimgokagimaaGreat
