/-
  What a log tells, under way: what a record does. No statement of a seat is proved here.
-/
import Derived.Test.YtmkmimgokagimaaGreatMLeKinds
import Derived.Test.YtmkmimgokagimaaGreatLeTw
set_option linter.unusedVariables false
set_option linter.unusedSimpArgs false
set_option linter.unusedSectionVars false
set_option linter.unnecessarySimpa false
set_option maxRecDepth 100000
namespace Go.Proofs.YtmkmimgokagimaaGreat
open Go.Ab
attribute [local simp] bJ bw bt bG bF cL kN bX bx bD cR cQ cr bY bh ct List.take_of_length_le
structure fM (H:ad) (rb rs ru:Ref) (xh xr:AV) (us0:List Clear) (qs:List bn) (gr0:Int) (b:ep):Prop where
 box : ∃xu xq yu yq wu wq,H.get rb=some ⟨10,[.agg [xu,xq,aI gr0,yu,yq,aI b.gr,xr,.mp rs,.mp ru,xh]],false,false⟩∧Sl 3 (ed us0) xu∧Sl 5 (ef qs) xq∧ik 3 (ed b.us) H yu wu∧ik 5 (ef qs) H yq wq
 ses:H.get rs=some (bE (cI xA b.ses))
 use:H.get ru=some (bE (cI vx b.used))
 dE:sO 17 (ff b.dE) H xh
 one:xr.cells=[xr]∧xr.one=true
 sep:rb≠rs∧rb≠ru∧rs≠ru∧xh.at?≠some rb∧xh.at?≠some rs∧xh.at?≠some ru
 t43 : ∀r,xh.at?=some r→r.t=43
theorem lP{z:Nat}{es:List AV}{H:ad}{x:AV}(h:sO z es H x) : ∃y,iP z es H x y:=by
 rcases h with ⟨rfl,rfl⟩ | ⟨r,rfl,hr⟩
 ·exact⟨cp,.inl ⟨rfl,.inl ⟨rfl,rfl⟩⟩⟩
 ·exact⟨_,.inr ⟨r,none,false,rfl,hr,rfl,Nat.le_refl _⟩⟩
theorem fM.at{H:ad}{rb rs ru:Ref}{xh xr:AV}{us0:List Clear}{qs:List bn}{gr0:Int}{b:ep}(h:fM H rb rs ru xh xr us0 qs gr0 b):C1 H rb us0 qs gr0 b:=by
 obtain⟨xu,xq,yu,yq,wu,wq,h1,h2,h3,h4,h5⟩:=h.box
 obtain⟨vh,h6⟩:=lP h.dE
 exact⟨xu,xq,yu,yq,wu,wq,xr,rs,ru,xh,vh,h1,h2,h3,h4,h5,h.ses,h.use,h6,h.one⟩
structure NP (H H':ad) (rb rs ru:Ref) (xh xh':AV):Prop where
 fr:Fr H'
 old : ∀q c,H.get q=some c→q≠rb→q≠rs→q≠ru→xh.at?≠some q→H'.get q=some c∧xh'.at?≠some q
theorem ik.cL{z:Nat}{es:List AV}{H H':ad}{x y:AV}(h:ik z es H x y)(g : ∀q c,H.get q=some c→c.iX=true→H'.get q=some c):ik z es H' x y:=by
 rcases h with h | ⟨r,c,rfl,hr,rfl,hc⟩
 ·exact .inl h
 ·exact .inr ⟨r,c,rfl,g _ _ hr rfl,rfl,hc⟩
theorem fM.Zb{H H':ad}{rb rs ru:Ref}{xh xr:AV}{us0:List Clear}{qs:List bn}{gr0:Int}{b b':ep}(h:fM H rb rs ru xh xr us0 qs gr0 b)(hu:b'.us=b.us)(hg:b'.gr=b.gr)(hh:b'.dE=b.dE)
 (hF:Fr H') (h1:H'.get rs=some (bE (cI xA b'.ses))) (h2:H'.get ru=some (bE (cI vx b'.used))) (hk : ∀q c,H.get q=some c→q≠rs→q≠ru→H'.get q=some c) :
 fM H' rb rs ru xh xr us0 qs gr0 b'∧NP H H' rb rs ru xh xh:=by
 obtain⟨xu,xq,yu,yq,wu,wq,e1,e2,e3,e4,e5⟩:=h.box
 have hz : ∀q c,H.get q=some c→c.iX=true→H'.get q=some c:=by
  intro q c hq hf
  refine hk q c hq ?_ ?_
  ·rintro rfl;rw[h.ses]at hq;cases hq;exact absurd hf (by simp[bE])
  ·rintro rfl;rw[h.use]at hq;cases hq;exact absurd hf (by simp[bE])
 refine⟨⟨⟨xu,xq,yu,yq,wu,wq,?_,e2,e3,?_,e5.cL hz⟩,h1,h2,?_,h.one,h.sep,h.t43⟩,⟨hF,fun q c hq _ h3 h4 h5=>⟨hk q c hq h3 h4,h5⟩⟩⟩
 ·rw[hg];exact hk _ _ e1 h.sep.1 h.sep.2.1
 ·rw[hu];exact e4.cL hz
 ·rw[hh]
  rcases h.dE with ho | ⟨r,rfl,hr⟩
  ·exact .inl ho
  ·exact .inr ⟨r,rfl,hk _ _ hr (fun e=>h.sep.2.2.2.2.1 (by rw[e];rfl)) (fun e=>h.sep.2.2.2.2.2 (by rw[e];rfl))⟩
def Ag(b:ep)(o:bz)(u:Int):ep :=
 {b with ses:=fO o.h (uY.av ⟨true,u,0⟩) b.ses,used:=fO ⟨o.h.lv,o.h.cats⟩ (xB.av { jw b o with opens:=IntKind.i64.wrap ((jw b o).opens+1)}) b.used}
def yf(b:ep)(o:bz)(code:Int):xB := { jw b o with ops:=IntKind.i64.wrap ((jw b o).ops+1),cells:=if code=0∧o.kind=1 then IntKind.i64.wrap ((jw b o).cells+o.s.many) else (jw b o).cells}
def rZ(b:ep)(o:bz)(code:Int)(y:AV):ep :=
 {b with ses:=fO o.h (uY.av { kP b o with s:=IntKind.i64.wrap ((kP b o).s+1)}) b.ses,used:=fO ⟨o.h.lv,o.h.cats⟩ (xB.av (yf b o code)) b.used,dE:=if code=0 then b.dE++[(o,y)] else b.dE}
def BB(b:ep)(u:Int)(v:UInt8)(c:UInt32)(ok:Bool):ep := { b with us:=b.us.set u.toNat ⟨v,c,ok⟩,gr:=IntKind.i64.wrap (b.gr - 1)}
theorem Sz{H:ad}{rs:Ref}{l:List (nY × AV)}(hr:H.get rs=some (bE (cI xA l)))(h:nY)(x:AV):dO env.P H 126 (some (.mp rs)) (some (.agg [a8 h.lv,aF h.cats,a8 h.num])) (some x)=some (AV.undef,H.put rs (some (bE (cI xA (fO h x l))))) :=
 rG IN FB (t:=126) (et:=73) (by kernel_rfl) hr h x
theorem Sy{H:ad}{ru:Ref}{l:List (jS × AV)}(hr:H.get ru=some (bE (cI vx l)))(v:jS)(x:AV):dO env.P H 127 (some (.mp ru)) (some (.agg [a8 v.lv,aF v.cats])) (some x)=some (AV.undef,H.put ru (some (bE (cI vx (fO v x l))))) :=
 rG IM Fv (t:=127) (et:=81) (by kernel_rfl) hr v x
section
variable(dep:Nat){H:ad}(hF:Fr H){rb rs ru:Ref}{xh xr:AV}{us0:List Clear}{qs:List bn}{gr0:Int}{b:ep}(hb:fM H rb rs ru xh xr us0 qs gr0 b)(hok:ni b)
include hF hb hok
theorem WA(k:UInt8)(u:Int)(ba:UInt8)(aO:UInt8)(aN:UInt32)(aT:UInt8)(aV:Int)(aX:UInt8)(aW:UInt32)(aY:UInt8)(aZ:Int)(an:Int)(ay:UInt8)(ax:UInt32)(aw:UInt8)(au:Int)(aA:UInt8)(az:UInt32)(c g1:Int)(v:UInt8)(w:UInt32)(o:Bool){x:AV}{al:List Int}(hx:Sl 1 (rows al) x) :
 ∃H',bO env dep (.fn 148) [.ptr rb 0 0,.agg [a8 k,aI u,a8 ba,a8 aO,aF aN,a8 aT,aI aV,a8 aX,aF aW,a8 aY,aI aZ,aI an,a8 ay,aF ax,a8 aw,aI au,a8 aA,aF az,x,aI c,aI g1,a8 v,aF w,aB o]] H=some (.v (.tuple #[]),H')∧fM H' rb rs ru xh xr us0 qs gr0 (Ag b (⟨ba,⟨aO,aN,aT⟩,aV,⟨⟨⟨aX,aW,aY⟩,aZ⟩,an⟩,⟨⟨ay,ax,aw⟩,au⟩,⟨aA,az⟩,al⟩:bz) u)∧NP H H' rb rs ru xh xh:=by
 have hgo:b7 env Tryz.f148 (dep+1) [.code tN] (pM 0 [.ptr rb 0 0,.agg [a8 k,aI u,a8 ba,a8 aO,aF aN,a8 aT,aI aV,a8 aX,aF aW,a8 aY,aI aZ,aI an,a8 ay,aF ax,a8 aw,aI au,a8 aA,aF az,x,aI c,aI g1,a8 v,aF w,aB o]]) H fun y H1=>y = .v (.tuple #[])∧fM H1 rb rs ru xh xr us0 qs gr0 (Ag b (⟨ba,⟨aO,aN,aT⟩,aV,⟨⟨⟨aX,aW,aY⟩,aZ⟩,an⟩,⟨⟨ay,ax,aw⟩,au⟩,⟨aA,az⟩,al⟩:bz) u)∧NP H H1 rb rs ru xh xh:=by
  refine Ax _ _ _ _ _ fun g=>?_
  have hup:=fun H'=>hb.Zb (H':=H') (b':=Ag b (⟨ba,⟨aO,aN,aT⟩,aV,⟨⟨⟨aX,aW,aY⟩,aZ⟩,an⟩,⟨⟨ay,ax,aw⟩,au⟩,⟨aA,az⟩,al⟩:bz) u) rfl rfl rfl
  obtain⟨xu,xq,yu,yq,wu,wq,h1,h2,h3,h4,h5⟩:=hb.box
  have h6:=hb.ses
  have h7:=hb.use
  have c4:=h4.s.cells
  have c5:=h5.s.cells
  have c8:xh.cells=[xh]∧xh.one=true:=by obtain⟨_,hs⟩:=lP hb.dE;exact hs.cells
  have c9:=hb.one
  have l1:(H.get rb).isSome=true:=by rw[h1];rfl
  have l6:(H.get rs).isSome=true:=by rw[h6];rfl
  have l7:(H.get ru).isSome=true:=by rw[h7];rfl
  obtain⟨s1,s2,s3,_⟩:=hb.sep
  have s1':=s1.symm
  have s2':=s2.symm
  have s3':=s3.symm
  have hu1:=fun(H':ad)(h:H'.get rs=some (bE (cI xA b.ses)))=>Sz h ⟨aO,aN,aT⟩
  have hu2:=fun(H':ad)(h:H'.get ru=some (bE (cI vx b.used)))=>Sy h ⟨aO,aN⟩
  have hlk:=fun(H':ad)(h:H'.get ru=some (bE (cI vx b.used)))=>Cl (g:=H'.get) hok.used h ⟨aO,aN⟩
  simp only[Ag,jw]at hup
  unfold Ag jw
  simp only
  generalize nu (bH ⟨aO,aN⟩ b.used)=uu at *
  obtain⟨u1,u2,u3⟩:=uu
  clear hb h4 h5 hok
  simp only[uY.av,xB.av]at hup
  simp[ah,ai,ae,af,ab, *,uj,hx.r,h1,h6,h7,hlk,hu1,hu2,uY.av,xB.av]
  clear hu1 hu2 hlk
  refine hup _ ?_ ?_ ?_ fun q cc hq n1 n2=>?_
  ·exact by simp(maxDischargeDepth:=12) [ad.ao,aD,aq,Fr.nil,aJ,ah,ai,ae,af,aC,ar,ab, *]
  ·exact by simp(maxDischargeDepth:=12) [ad.ao,aD,aq,Fr.nil,aJ,ah,ai,ae,af,aC,ar,ab, *]
  ·exact by simp(maxDischargeDepth:=12) [ad.ao,aD,aq,Fr.nil,aJ,ah,ai,ae,af,aC,ar,ab, *]
  ·have lq:(H.get q).isSome=true:=by rw[hq];rfl
   simp[ah hF lq,ad.ao,n1,n2,n1.symm,n2.symm,hq]
 obtain⟨y,H',h1,rfl,h2⟩:=iT (by kernel_rfl) (by kernel_rfl) (by kernel_rfl) (by kernel_rfl) (by kernel_rfl) hgo
 exact⟨H',h1,h2⟩
theorem Ww(k:UInt8)(u:Int)(ba:UInt8)(aO:UInt8)(aN:UInt32)(aT:UInt8)(aV:Int)(aX:UInt8)(aW:UInt32)(aY:UInt8)(aZ:Int)(an:Int)(ay:UInt8)(ax:UInt32)(aw:UInt8)(au:Int)(aA:UInt8)(az:UInt32)(c g1:Int)(v:UInt8)(w:UInt32)(o:Bool){x:AV}{al:List Int}(hx:Sl 1 (rows al) x)(hql:qs.length<1000000)(he:yB b.us qs b.gr g1 v w o=0) :
 ∃H',bO env dep (.fn 153) [.ptr rb 0 0,.agg [a8 k,aI u,a8 ba,a8 aO,aF aN,a8 aT,aI aV,a8 aX,aF aW,a8 aY,aI aZ,aI an,a8 ay,aF ax,a8 aw,aI au,a8 aA,aF az,x,aI c,aI g1,a8 v,aF w,aB o]] H=some (.v (.tuple #[]),H')∧fM H' rb rs ru xh xr us0 qs gr0 (BB b g1 v w o)∧NP H H' rb rs ru xh xh:=by
 have hgo:b7 env Tryz.f153 (dep+1) [.code tK] (pM 0 [.ptr rb 0 0,.agg [a8 k,aI u,a8 ba,a8 aO,aF aN,a8 aT,aI aV,a8 aX,aF aW,a8 aY,aI aZ,aI an,a8 ay,aF ax,a8 aw,aI au,a8 aA,aF az,x,aI c,aI g1,a8 v,aF w,aB o]]) H fun y H1=>y = .v (.tuple #[])∧fM H1 rb rs ru xh xr us0 qs gr0 (BB b g1 v w o)∧NP H H1 rb rs ru xh xh:=by
  refine Au _ _ _ _ _ fun g=>?_
  obtain⟨xu,xq,yu,yq,wu,wq,h1,h2,h3,h4,h5⟩:=hb.box
  have h6:=hb.ses
  have h7:=hb.use
  have c8:xh.cells=[xh]∧xh.one=true:=by obtain⟨_,hs⟩:=lP hb.dE;exact hs.cells
  have c9:=hb.one
  have l1:(H.get rb).isSome=true:=by rw[h1];rfl
  have hfew:=hok.few
  have c4:=fun b1=>(h4.s.cons hF (dep+1) 3 (some b1)).r
  have c5:=fun b1=>(h5.s.cons hF (dep+1) 3 (some b1)).r
  have d4:=h4.s.cells
  have d5:=h5.s.cells
  obtain⟨yy,hyy,hA⟩:=JO (gr:=b.gr) h4.s.sl h5.s.sl (by omega) (by omega) g1 v w o he
  have z4:=(ik.grow h4 (bQ.cons hF (dep+1) 3 ⟨24,[.agg [a8 k,aI u,a8 ba,a8 aO,aF aN,a8 aT,aI aV,a8 aX,aF aW,a8 aY,aI aZ,aI an,a8 ay,aF ax,a8 aw,aI au,a8 aA,aF az,x,aI c,aI g1,a8 v,aF w,aB o]],false,false⟩)).refs 6
  have z5:=(ik.grow h5 (bQ.cons hF (dep+1) 3 ⟨24,[.agg [a8 k,aI u,a8 ba,a8 aO,aF aN,a8 aT,aI aV,a8 aX,aF aW,a8 aY,aI aZ,aI an,a8 ay,aF ax,a8 aw,aI au,a8 aA,aF az,x,aI c,aI g1,a8 v,aF w,aB o]],false,false⟩)).refs 6
  have hyr:=hyy.r
  have hfin : ∀H',Fr H'→H'.get rb=some ⟨10,[.agg [xu,xq,aI gr0,.ck 3 (ed (b.us.set g1.toNat ⟨v,w,o⟩)) none,yy,aI (IntKind.i64.wrap (b.gr - 1)),xr,.mp rs,.mp ru,xh]],false,false⟩→(∀q c,H.get q=some c→q≠rb→H'.get q=some c) →
   fM H' rb rs ru xh xr us0 qs gr0 (BB b g1 v w o)∧NP H H' rb rs ru xh xh:=by
   intro H' f1 f2 f3
   refine⟨⟨⟨xu,xq,_,yy,_,yy,f2,h2,h3,ik.of (Sl.mk _ _) H',ik.of hyy H'⟩,f3 _ _ h6 hb.sep.1.symm,f3 _ _ h7 hb.sep.2.1.symm,?_,c9,hb.sep,hb.t43⟩,⟨f1,fun q c hq n1 n2 n3 n4=>⟨f3 q c hq n1,n4⟩⟩⟩
   rcases hb.dE with ho | ⟨r,rfl,hr⟩
   ·exact .inl ho
   ·exact .inr ⟨r,rfl,f3 _ _ hr (fun e=>hb.sep.2.2.2.1 (by rw[e];rfl))⟩
  clear hb h4 h5 hok
  simp[ah,ai,ae,af,ab, *,uh,hx.r,h2.r,h3.r,zM]
  refine hfin _ ?_ ?_ fun q cc hq n1=>?_
  ·exact by simp(maxDischargeDepth:=12) [ad.ao,aD,aq,Fr.nil,aJ,ah,ai,ae,af,aC,ar,ab, *]
  ·exact by simp(maxDischargeDepth:=12) [ad.ao,aD,aq,Fr.nil,aJ,ah,ai,ae,af,aC,ar,ab, *]
  ·have lq:(H.get q).isSome=true:=by rw[hq];rfl
   simp[ah hF lq,ad.ao,n1,n1.symm,hq]
 obtain⟨y,H',h1,rfl,h2⟩:=iT (by kernel_rfl) (by kernel_rfl) (by kernel_rfl) (by kernel_rfl) (by kernel_rfl) hgo
 exact⟨H',h1,h2⟩
end
end Go.Proofs.YtmkmimgokagimaaGreat
