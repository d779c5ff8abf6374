/-
  What a log tells, under way: what a record does. No statement of a seat is proved here.
-/
import Derived.Test.YtdbiffjdomokfaaGreatLeKinds
import Derived.Test.YtdbiffjdomokfaaGreatLeTw
set_option linter.unusedVariables false
set_option linter.unusedSimpArgs false
set_option linter.unusedSectionVars false
set_option linter.unnecessarySimpa false
set_option maxRecDepth 100000
namespace Go.Proofs.YtdbiffjdomokfaaGreat
open Go.Ab
attribute [local simp] bD bq bo bF bE cZ ld bQ bx bA dx dw cg bT aY ct List.take_of_length_le
structure jq (H:ab) (rb rs ru:Ref) (xh xr:AV) (us0:List Clear) (qs:List bz) (gr0:Int) (b:iw):Prop where
 box : ∃xu xq yu yq wu wq,H.get rb=some ⟨10,[.agg [xu,xq,aI gr0,yu,yq,aI b.gr,xr,.mp rs,.mp ru,xh]],false,false⟩∧Sl 3 (eZ us0) xu∧Sl 5 (ff qs) xq∧ke 3 (eZ b.us) H yu wu∧ke 5 (ff qs) H yq wq
 ses:H.get rs=some (bt (cD uP b.ses))
 use:H.get ru=some (bt (cD tf b.used))
 iD:Own 17 (eU b.iD) H xh
 one:xr.cells=[xr]∧xr.one=true
 sep:rb≠rs∧rb≠ru∧rs≠ru∧xh.at?≠some rb∧xh.at?≠some rs∧xh.at?≠some ru
 t43 : ∀r,xh.at?=some r→r.t=43
theorem oA{z:Nat}{es:List AV}{H:ab}{x:AV}(h:Own z es H x) : ∃y,iu z es H x y:=by
 rcases h with ⟨rfl,rfl⟩ | ⟨r,rfl,hr⟩
 ·exact⟨cW,.inl ⟨rfl,.inl ⟨rfl,rfl⟩⟩⟩
 ·exact⟨_,.inr ⟨r,none,false,rfl,hr,rfl,Nat.le_refl _⟩⟩
theorem jq.at{H:ab}{rb rs ru:Ref}{xh xr:AV}{us0:List Clear}{qs:List bz}{gr0:Int}{b:iw}(h:jq H rb rs ru xh xr us0 qs gr0 b):zW H rb us0 qs gr0 b:=by
 obtain⟨xu,xq,yu,yq,wu,wq,h1,h2,h3,h4,h5⟩:=h.box
 obtain⟨vh,h6⟩:=oA h.iD
 exact⟨xu,xq,yu,yq,wu,wq,xr,rs,ru,xh,vh,h1,h2,h3,h4,h5,h.ses,h.use,h6,h.one⟩
structure Kd (H H':ab) (rb rs ru:Ref) (xh xh':AV):Prop where
 fr:Fr H'
 old : ∀q c,H.get q=some c→q≠rb→q≠rs→q≠ru→xh.at?≠some q→H'.get q=some c∧xh'.at?≠some q
theorem ke.cZ{z:Nat}{es:List AV}{H H':ab}{x y:AV}(h:ke z es H x y)(g : ∀q c,H.get q=some c→c.jg=true→H'.get q=some c):ke z es H' x y:=by
 rcases h with h | ⟨r,c,rfl,hr,rfl,hc⟩
 ·exact .inl h
 ·exact .inr ⟨r,c,rfl,g _ _ hr rfl,rfl,hc⟩
theorem jq.upd{H H':ab}{rb rs ru:Ref}{xh xr:AV}{us0:List Clear}{qs:List bz}{gr0:Int}{b b':iw}(h:jq H rb rs ru xh xr us0 qs gr0 b)(hu:b'.us=b.us)(hg:b'.gr=b.gr)(hh:b'.iD=b.iD)
 (hF:Fr H') (h1:H'.get rs=some (bt (cD uP b'.ses))) (h2:H'.get ru=some (bt (cD tf b'.used))) (hk : ∀q c,H.get q=some c→q≠rs→q≠ru→H'.get q=some c) :
 jq H' rb rs ru xh xr us0 qs gr0 b'∧Kd H H' rb rs ru xh xh:=by
 obtain⟨xu,xq,yu,yq,wu,wq,e1,e2,e3,e4,e5⟩:=h.box
 have hz : ∀q c,H.get q=some c→c.jg=true→H'.get q=some c:=by
  intro q c hq hf
  refine hk q c hq ?_ ?_
  ·rintro rfl;rw[h.ses]at hq;cases hq;exact absurd hf (by simp[bt])
  ·rintro rfl;rw[h.use]at hq;cases hq;exact absurd hf (by simp[bt])
 refine⟨⟨⟨xu,xq,yu,yq,wu,wq,?_,e2,e3,?_,e5.cZ hz⟩,h1,h2,?_,h.one,h.sep,h.t43⟩,⟨hF,fun q c hq _ h3 h4 h5=>⟨hk q c hq h3 h4,h5⟩⟩⟩
 ·rw[hg];exact hk _ _ e1 h.sep.1 h.sep.2.1
 ·rw[hu];exact e4.cZ hz
 ·rw[hh]
  rcases h.iD with ho | ⟨r,rfl,hr⟩
  ·exact .inl ho
  ·exact .inr ⟨r,rfl,hk _ _ hr (fun e=>h.sep.2.2.2.2.1 (by rw[e];rfl)) (fun e=>h.sep.2.2.2.2.2 (by rw[e];rfl))⟩
def w9(b:iw)(o:bR)(u:Int):iw :=
 {b with ses:=mi o.h (AZ.av ⟨true,u,0⟩) b.ses,used:=mi ⟨o.h.lv,o.h.cats⟩ (zU.av { pT b o with opens:=IntKind.i64.wrap ((pT b o).opens+1)}) b.used}
def Hp(b:iw)(o:bR)(code:Int):zU := { pT b o with ops:=IntKind.i64.wrap ((pT b o).ops+1),cells:=if code=0∧o.kind=1 then IntKind.i64.wrap ((pT b o).cells+o.s.many) else (pT b o).cells}
def rL(b:iw)(o:bR)(code:Int)(y:AV):iw :=
 {b with ses:=mi o.h (AZ.av { vW b o with s:=IntKind.i64.wrap ((vW b o).s+1)}) b.ses,used:=mi ⟨o.h.lv,o.h.cats⟩ (zU.av (Hp b o code)) b.used,iD:=if code=0 then b.iD++[(o,y)] else b.iD}
def yF(b:iw)(u:Int)(v:UInt8)(c:UInt32)(ok:Bool):iw := { b with us:=b.us.set u.toNat ⟨v,c,ok⟩,gr:=IntKind.i64.wrap (b.gr - 1)}
theorem O1{H:ab}{rs:Ref}{l:List (AO × AV)}(hr:H.get rs=some (bt (cD uP l)))(h:AO)(x:AV):dL env.P H 88 (some (.mp rs)) (some (.agg [a8 h.lv,aF h.cats,a8 h.num])) (some x)=some (AV.undef,H.put rs (some (bt (cD uP (mi h x l))))) :=
 pO E6 Ca (t:=88) (et:=119) (by kernel_rfl) hr h x
theorem O0{H:ab}{ru:Ref}{l:List (mL × AV)}(hr:H.get ru=some (bt (cD tf l)))(v:mL)(x:AV):dL env.P H 89 (some (.mp ru)) (some (.agg [a8 v.lv,aF v.cats])) (some x)=some (AV.undef,H.put ru (some (bt (cD tf (mi v x l))))) :=
 pO E5 B4 (t:=89) (et:=76) (by kernel_rfl) hr v x
section
variable(dep:Nat){H:ab}(hF:Fr H){rb rs ru:Ref}{xh xr:AV}{us0:List Clear}{qs:List bz}{gr0:Int}{b:iw}(hb:jq H rb rs ru xh xr us0 qs gr0 b)(hok:tI b)
include hF hb hok
theorem SU(k:UInt8)(u:Int)(bh:UInt8)(aQ:UInt8)(aP:UInt32)(aT:UInt8)(aX:Int)(bc:UInt8)(ba:UInt32)(bf:UInt8)(bg:Int)(au:Int)(az:UInt8)(ay:UInt32)(ax:UInt8)(aw:Int)(aC:UInt8)(aA:UInt32)(c g1:Int)(v:UInt8)(w:UInt32)(o:Bool){x:AV}{al:List Int}(hx:Sl 1 (rows al) x) :
 ∃H',bU env dep (.fn 74) [.ptr rb 0 0,.agg [a8 k,aI u,a8 bh,a8 aQ,aF aP,a8 aT,aI aX,a8 bc,aF ba,a8 bf,aI bg,aI au,a8 az,aF ay,a8 ax,aI aw,a8 aC,aF aA,x,aI c,aI g1,a8 v,aF w,aB o]] H=some (.v (.tuple #[]),H')∧jq H' rb rs ru xh xr us0 qs gr0 (w9 b (⟨bh,⟨aQ,aP,aT⟩,aX,⟨⟨⟨bc,ba,bf⟩,bg⟩,au⟩,⟨⟨az,ay,ax⟩,aw⟩,⟨aC,aA⟩,al⟩:bR) u)∧Kd H H' rb rs ru xh xh:=by
 have hgo:bP env Tryz.f74 (dep+1) [.code q6] (ra 0 [.ptr rb 0 0,.agg [a8 k,aI u,a8 bh,a8 aQ,aF aP,a8 aT,aI aX,a8 bc,aF ba,a8 bf,aI bg,aI au,a8 az,aF ay,a8 ax,aI aw,a8 aC,aF aA,x,aI c,aI g1,a8 v,aF w,aB o]]) H fun y H1=>y = .v (.tuple #[])∧jq H1 rb rs ru xh xr us0 qs gr0 (w9 b (⟨bh,⟨aQ,aP,aT⟩,aX,⟨⟨⟨bc,ba,bf⟩,bg⟩,au⟩,⟨⟨az,ay,ax⟩,aw⟩,⟨aC,aA⟩,al⟩:bR) u)∧Kd H H1 rb rs ru xh xh:=by
  refine xw _ _ _ _ _ fun g=>?_
  have hup:=fun H'=>hb.upd (H':=H') (b':=w9 b (⟨bh,⟨aQ,aP,aT⟩,aX,⟨⟨⟨bc,ba,bf⟩,bg⟩,au⟩,⟨⟨az,ay,ax⟩,aw⟩,⟨aC,aA⟩,al⟩:bR) u) rfl rfl rfl
  obtain⟨xu,xq,yu,yq,wu,wq,h1,h2,h3,h4,h5⟩:=hb.box
  have h6:=hb.ses
  have h7:=hb.use
  have c4:=h4.s.cells
  have c5:=h5.s.cells
  have c8:xh.cells=[xh]∧xh.one=true:=by obtain⟨_,hs⟩:=oA hb.iD;exact hs.cells
  have c9:=hb.one
  have l1:(H.get rb).isSome=true:=by rw[h1];rfl
  have l6:(H.get rs).isSome=true:=by rw[h6];rfl
  have l7:(H.get ru).isSome=true:=by rw[h7];rfl
  obtain⟨s1,s2,s3,_⟩:=hb.sep
  have s1':=s1.symm
  have s2':=s2.symm
  have s3':=s3.symm
  have hu1:=fun(H':ab)(h:H'.get rs=some (bt (cD uP b.ses)))=>O1 h ⟨aQ,aP,aT⟩
  have hu2:=fun(H':ab)(h:H'.get ru=some (bt (cD tf b.used)))=>O0 h ⟨aQ,aP⟩
  have hlk:=fun(H':ab)(h:H'.get ru=some (bt (cD tf b.used)))=>Bi (g:=H'.get) hok.used h ⟨aQ,aP⟩
  simp only[w9,pT]at hup
  unfold w9 pT
  simp only
  generalize sS (eW ⟨aQ,aP⟩ b.used)=uu at *
  obtain⟨u1,u2,u3⟩:=uu
  clear hb h4 h5 hok
  simp only[AZ.av,zU.av]at hup
  simp[ah,ai,ae,af,ad, *,rl,hx.r,h1,h6,h7,hlk,hu1,hu2,AZ.av,zU.av]
  clear hu1 hu2 hlk
  refine hup _ ?_ ?_ ?_ fun q cc hq n1 n2=>?_
  ·exact by simp(maxDischargeDepth:=12) [ab.get_put,aq,an,Fr.nil,aD,ah,ai,ae,af,ar,ao,ad, *]
  ·exact by simp(maxDischargeDepth:=12) [ab.get_put,aq,an,Fr.nil,aD,ah,ai,ae,af,ar,ao,ad, *]
  ·exact by simp(maxDischargeDepth:=12) [ab.get_put,aq,an,Fr.nil,aD,ah,ai,ae,af,ar,ao,ad, *]
  ·have lq:(H.get q).isSome=true:=by rw[hq];rfl
   simp[ah hF lq,ab.get_put,n1,n2,n1.symm,n2.symm,hq]
 obtain⟨y,H',h1,rfl,h2⟩:=mv (f:=74) (by kernel_rfl) (by kernel_rfl) (by kernel_rfl) (by kernel_rfl) (by kernel_rfl) hgo
 exact⟨H',h1,h2⟩
theorem SP(k:UInt8)(u:Int)(bh:UInt8)(aQ:UInt8)(aP:UInt32)(aT:UInt8)(aX:Int)(bc:UInt8)(ba:UInt32)(bf:UInt8)(bg:Int)(au:Int)(az:UInt8)(ay:UInt32)(ax:UInt8)(aw:Int)(aC:UInt8)(aA:UInt32)(c g1:Int)(v:UInt8)(w:UInt32)(o:Bool){x:AV}{al:List Int}(hx:Sl 1 (rows al) x)(hql:qs.length<1000000)(he:vj b.us qs b.gr g1 v w o=0) :
 ∃H',bU env dep (.fn 81) [.ptr rb 0 0,.agg [a8 k,aI u,a8 bh,a8 aQ,aF aP,a8 aT,aI aX,a8 bc,aF ba,a8 bf,aI bg,aI au,a8 az,aF ay,a8 ax,aI aw,a8 aC,aF aA,x,aI c,aI g1,a8 v,aF w,aB o]] H=some (.v (.tuple #[]),H')∧jq H' rb rs ru xh xr us0 qs gr0 (yF b g1 v w o)∧Kd H H' rb rs ru xh xh:=by
 have hgo:bP env Tryz.f81 (dep+1) [.code qY] (ra 0 [.ptr rb 0 0,.agg [a8 k,aI u,a8 bh,a8 aQ,aF aP,a8 aT,aI aX,a8 bc,aF ba,a8 bf,aI bg,aI au,a8 az,aF ay,a8 ax,aI aw,a8 aC,aF aA,x,aI c,aI g1,a8 v,aF w,aB o]]) H fun y H1=>y = .v (.tuple #[])∧jq H1 rb rs ru xh xr us0 qs gr0 (yF b g1 v w o)∧Kd H H1 rb rs ru xh xh:=by
  refine xp _ _ _ _ _ fun g=>?_
  obtain⟨xu,xq,yu,yq,wu,wq,h1,h2,h3,h4,h5⟩:=hb.box
  have h6:=hb.ses
  have h7:=hb.use
  have c8:xh.cells=[xh]∧xh.one=true:=by obtain⟨_,hs⟩:=oA hb.iD;exact hs.cells
  have c9:=hb.one
  have l1:(H.get rb).isSome=true:=by rw[h1];rfl
  have hfew:=hok.few
  have c4:=fun b1=>(h4.s.cons hF (dep+1) 3 (some b1)).r
  have c5:=fun b1=>(h5.s.cons hF (dep+1) 3 (some b1)).r
  have d4:=h4.s.cells
  have d5:=h5.s.cells
  obtain⟨yy,hyy,hA⟩:=F8 (gr:=b.gr) h4.s.sl h5.s.sl (by omega) (by omega) g1 v w o he
  have z4:=(ke.grow h4 (cz.cons hF (dep+1) 3 ⟨24,[.agg [a8 k,aI u,a8 bh,a8 aQ,aF aP,a8 aT,aI aX,a8 bc,aF ba,a8 bf,aI bg,aI au,a8 az,aF ay,a8 ax,aI aw,a8 aC,aF aA,x,aI c,aI g1,a8 v,aF w,aB o]],false,false⟩)).refs 6
  have z5:=(ke.grow h5 (cz.cons hF (dep+1) 3 ⟨24,[.agg [a8 k,aI u,a8 bh,a8 aQ,aF aP,a8 aT,aI aX,a8 bc,aF ba,a8 bf,aI bg,aI au,a8 az,aF ay,a8 ax,aI aw,a8 aC,aF aA,x,aI c,aI g1,a8 v,aF w,aB o]],false,false⟩)).refs 6
  have hyr:=hyy.r
  have hfin : ∀H',Fr H'→H'.get rb=some ⟨10,[.agg [xu,xq,aI gr0,.cw 3 (eZ (b.us.set g1.toNat ⟨v,w,o⟩)) none,yy,aI (IntKind.i64.wrap (b.gr - 1)),xr,.mp rs,.mp ru,xh]],false,false⟩→(∀q c,H.get q=some c→q≠rb→H'.get q=some c) →
   jq H' rb rs ru xh xr us0 qs gr0 (yF b g1 v w o)∧Kd H H' rb rs ru xh xh:=by
   intro H' f1 f2 f3
   refine⟨⟨⟨xu,xq,_,yy,_,yy,f2,h2,h3,ke.of (Sl.mk _ _) H',ke.of hyy H'⟩,f3 _ _ h6 hb.sep.1.symm,f3 _ _ h7 hb.sep.2.1.symm,?_,c9,hb.sep,hb.t43⟩,⟨f1,fun q c hq n1 n2 n3 n4=>⟨f3 q c hq n1,n4⟩⟩⟩
   rcases hb.iD with ho | ⟨r,rfl,hr⟩
   ·exact .inl ho
   ·exact .inr ⟨r,rfl,f3 _ _ hr (fun e=>hb.sep.2.2.2.1 (by rw[e];rfl))⟩
  clear hb h4 h5 hok
  simp[ah,ai,ae,af,ad, *,ri,hx.r,h2.r,h3.r,wG]
  refine hfin _ ?_ ?_ fun q cc hq n1=>?_
  ·exact by simp(maxDischargeDepth:=12) [ab.get_put,aq,an,Fr.nil,aD,ah,ai,ae,af,ar,ao,ad, *]
  ·exact by simp(maxDischargeDepth:=12) [ab.get_put,aq,an,Fr.nil,aD,ah,ai,ae,af,ar,ao,ad, *]
  ·have lq:(H.get q).isSome=true:=by rw[hq];rfl
   simp[ah hF lq,ab.get_put,n1,n1.symm,hq]
 obtain⟨y,H',h1,rfl,h2⟩:=mv (f:=81) (by kernel_rfl) (by kernel_rfl) (by kernel_rfl) (by kernel_rfl) (by kernel_rfl) hgo
 exact⟨H',h1,h2⟩
end
end Go.Proofs.YtdbiffjdomokfaaGreat
