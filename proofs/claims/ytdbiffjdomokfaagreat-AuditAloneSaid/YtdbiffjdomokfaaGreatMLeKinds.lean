/-
  The document's functions of policy: what they answer. No statement of a seat is proved here.
-/
import Derived.Test.YtdbiffjdomokfaaGreatMLeTwin
import Derived.Test.YtdbiffjdomokfaaGreatMLeDoc7
import Derived.Test.YtdbiffjdomokfaaGreatLeApp
import Derived.Test.YtdbiffjdomokfaaGreatAuVc9
set_option linter.unusedVariables false
set_option linter.unusedSimpArgs false
set_option linter.unusedSectionVars false
set_option linter.unnecessarySimpa false
set_option maxRecDepth 100000
namespace Go.Proofs.YtdbiffjdomokfaaGreat
open Go.Ab
attribute [local simp] bD bp cV lj
def pE(us:List Clear)(qs:List bu)(gr:Int)(a:UInt8)(b:UInt32):bu:=if wP us qs gr a=0 then Kn qs a b else ⟨0,0,0,0,0⟩
section
variable{xu xq:AV}{us:List Clear}{qs:List bu}{gr:Int}(hu:Sl 3 (eW us) xu)(hq:Sl 5 (eY qs) xq)(hql:qs.length<4611686018427387904)(hul:us.length<4611686018427387904)
include hu hq hql hul
@[simp] theorem Ki(a:UInt8)(b:UInt32):bj env 92 [.agg [xu,xq,aI gr],.agg [a8 a,aG b]]=some (.tup [.agg (pE us qs gr a b).enc,aI (wP us qs gr a)]):=by
 refine aK (fn:=Tryz.f92) (c:=uw) rfl (by kernel_rfl) (by kernel_rfl) (by kernel_rfl) (by kernel_rfl) ?_;refine AW _ _ _ _ fun g=>?_
 simp[ah,ai,ae,af,ad, *,uE,hu.r,hq.r,GK hu hq hql hul,kE]
 unfold pE Kn
 refine kO (fun h=>?_) (fun h=>?_)
 ·have h:wP us qs gr a≠0:=by simpa using h
  simp[h,bu.enc]
 ·have h:wP us qs gr a=0:=by simpa using h
  cases hf:qs.find? (yU a b) with
  | none=>simp[hu.r,hq.r,Nd hq hql,hf,bu.enc,h,kE]
  | some q=>simp[hu.r,hq.r,Nd hq hql,hf,bu.enc,h,kE]
end
end Go.Proofs.YtdbiffjdomokfaaGreat
namespace Go.Proofs.YtdbiffjdomokfaaGreat
open Go.Ab
attribute [local simp] bD bp bl bC bB cV lj bP bt bA dc db cg bR aV cm List.take_of_length_le
structure vS where
 o:Bool
 u:Int
 s:Int
structure vR where
 opens:Int
 ops:Int
 cells:Int
def vS.av(s:vS):AV := .agg [aB s.o,aI s.u,aI s.s]
def vR.av(u:vR):AV := .agg [a8 0,aG 0,aI u.opens,aI u.ops,aI u.cells]
def oJ:Option AV→vS
 | some (.agg [.v (.bool o),.v (.int _ u),.v (.int _ s)])=>⟨o,u,s⟩
 | _=>⟨false,0,0⟩
def oz:Option AV→vR
 | some (.agg [_,_,.v (.int _ x),.v (.int _ y),.v (.int _ z)])=>⟨x,y,z⟩
 | _=>⟨0,0,0⟩
@[simp] theorem Bk(s:vS):oJ (some s.av)=s:=by cases s;rfl
@[simp] theorem Ka(u:vR):oz (some u.av)=u:=by cases u;rfl
def M9(l:List (vU × AV)):Prop :=∀p∈l,∃s:vS,p.2=s.av
def MK(l:List (jz × AV)):Prop :=∀p∈l,∃u:vR,p.2=u.av
theorem FG{K:Type}[DecidableEq K]{P:AV→Prop} : ∀ {l:List (K × AV)} (h : ∀p∈l,P p.2) (k:K),bZ k l=none ∨∃x,bZ k l=some x∧P x
 | [],_,_ => .inl rfl
 | p :: l,h,k=>by
  unfold bZ
  split
  ·exact .inr ⟨p.2,rfl,h p List.mem_cons_self⟩
  ·exact FG (fun q hq=>h q (List.mem_cons_of_mem _ hq)) k
theorem yh{K:Type}[DecidableEq K]{P:AV→Prop}{k:K}{x:AV}(hx:P x) : ∀ {l:List (K × AV)} (h : ∀p∈l,P p.2),∀p∈fJ k x l,P p.2
 | [],_=>by intro p hp;simp[fJ]at hp;rw[hp];exact hx
 | q :: l,h=>by
  intro p hp
  unfold fJ at hp
  split at hp
  ·rcases List.mem_cons.1 hp with rfl | hp
   ·exact hx
   ·exact h p (List.mem_cons_of_mem _ hp)
  ·rcases List.mem_cons.1 hp with rfl | hp
   ·exact h _ List.mem_cons_self
   ·exact yh hx (fun p hp=>h p (List.mem_cons_of_mem _ hp)) p hp
theorem M8{l:List (vU × AV)}(h:M9 l)(k:vU):(bZ k l).getD (.agg [aB false,aI 0,aI 0])=(oJ (bZ k l)).av:=by
 rcases FG (P:=fun x =>∃s:vS,x=s.av) h k with e | ⟨x,e,s,rfl⟩
 ·rw[e];rfl
 ·rw[e,Bk];rfl
theorem MJ{l:List (jz × AV)}(h:MK l)(k:jz):(bZ k l).getD (.agg [a8 0,aG 0,aI 0,aI 0,aI 0])=(oz (bZ k l)).av:=by
 rcases FG (P:=fun x =>∃u:vR,x=u.av) h k with e | ⟨x,e,u,rfl⟩
 ·rw[e];rfl
 ·rw[e,Ka];rfl
def kj(z:Nat)(es:List AV)(H:ab)(x y:AV):Prop:=(x=y∧Sl z es y) ∨∃r c,x = .cM r 0 es.length c∧H.get r=some ⟨z,es,true,true⟩∧y = .cw z es c∧es.length≤c.getD es.length
theorem kj.s{z:Nat}{es:List AV}{H:ab}{x y:AV}(h:kj z es H x y):iw z es H x y:=by
 rcases h with h | ⟨r,c,h1,h2,h3,h4⟩
 ·exact .inl h
 ·exact .inr ⟨r,c,true,h1,h2,h3,h4⟩
theorem kj.refs{z:Nat}{es:List AV}{H:ab}{x y:AV}(h:kj z es H x y)(n:Nat):ic H.get (aH H.get (n+1) x)=true:=by
 rcases h with ⟨rfl,h⟩ | ⟨r,c,rfl,hr,rfl,hc⟩
 ·rw[h.refs];rfl
 ·simp[hr]
theorem kj.of{z:Nat}{es:List AV}{x:AV}(h:Sl z es x)(H:ab):kj z es H x x := .inl ⟨rfl,h⟩
structure fF where
 us:List Clear
 gr:Int
 ses:List (vU × AV)
 used:List (jz × AV)
 dZ:List (bG × AV)
structure ud (b:fF):Prop where
 ses:M9 b.ses
 used:MK b.used
 dZ : ∀p∈b.dZ,Jm p∧p.1.l.length<1000000
 many:b.dZ.length<10000
 few:b.us.length<1000000
structure Ar (H:ab) (rb:Ref) (us0:List Clear) (qs:List bu) (gr0:Int) (b:fF):Prop where
 box : ∃xu xq yu yq wu wq xr rs ru xh vh,H.get rb=some ⟨10,[.agg [xu,xq,aI gr0,yu,yq,aI b.gr,xr,.mp rs,.mp ru,xh]],false,false⟩∧Sl 3 (eW us0) xu∧Sl 5 (eY qs) xq∧kj 3 (eW b.us) H yu wu∧kj 5 (eY qs) H yq wq ∧
  H.get rs=some (bw (cH vk b.ses))∧H.get ru=some (bw (cH tF b.used))∧iw 17 (eV b.dZ) H xh vh∧xr.cells=[xr]∧xr.one=true
theorem kj.grow{z:Nat}{es:List AV}{H H':ab}{x y:AV}(h:kj z es H x y)(g:cE H H'):kj z es H' x y:=by
 rcases h with h | ⟨r,c,rfl,hr,rfl,hc⟩
 ·exact .inl h
 ·exact .inr ⟨r,c,rfl,g.old _ _ hr,rfl,hc⟩
theorem iw.grow{z:Nat}{es:List AV}{H H':ab}{x y:AV}(h:iw z es H x y)(g:cE H H'):iw z es H' x y:=by
 rcases h with h | ⟨r,c,fz,rfl,hr,rfl,hc⟩
 ·exact .inl h
 ·exact .inr ⟨r,c,fz,rfl,g.old _ _ hr,rfl,hc⟩
theorem Ar.grow{H H':ab}{rb:Ref}{us0:List Clear}{qs:List bu}{gr0:Int}{b:fF}(h:Ar H rb us0 qs gr0 b)(g:cE H H'):Ar H' rb us0 qs gr0 b:=by
 obtain⟨xu,xq,yu,yq,wu,wq,xr,rs,ru,xh,vh,h1,h2,h3,h4,h5,h6,h7,h8,h9⟩:=h.box
 exact⟨xu,xq,yu,yq,wu,wq,xr,rs,ru,xh,vh,g.old _ _ h1,h2,h3,kj.grow h4 g,kj.grow h5 g,g.old _ _ h6,g.old _ _ h7,iw.grow h8 g,h9⟩
theorem Fl{g:dk}{rs:Ref}{l:List (vU × AV)}(hb:M9 l)(hr:g rs=some (bw (cH vk l)))(h:vU):da env.P g 88 (some (.mp rs)) (some (.agg [a8 h.lv,aG h.cats,a8 h.num])) false=some ((oJ (bZ h l)).av,[]):=by
 have e:=u5 FK CC (t:=88) (et:=119) (by kernel_rfl) (z := .agg [aB false,aI 0,aI 0]) (by kernel_rfl) hr h false
 rw[M8 hb]at e
 exact e
theorem BJ{g:dk}{ru:Ref}{l:List (jz × AV)}(hb:MK l)(hr:g ru=some (bw (cH tF l)))(v:jz):da env.P g 89 (some (.mp ru)) (some (.agg [a8 v.lv,aG v.cats])) false=some ((oz (bZ v l)).av,[]):=by
 have e:=u5 FJ Cw (t:=89) (et:=76) (by kernel_rfl) (z := .agg [a8 0,aG 0,aI 0,aI 0,aI 0]) (by kernel_rfl) hr v false
 rw[MJ hb]at e
 exact e
section
variable(dep:Nat){H:ab}(hF:Fr H){rb:Ref}{us0:List Clear}{qs:List bu}{gr0:Int}{b:fF}(hb:Ar H rb us0 qs gr0 b)(hok:ud b)(hul:us0.length<1000000)(hql:qs.length<1000000)
include hF hb hok hul hql
theorem KD(v1:UInt8)(v2:UInt32) : ∃H',bV env dep (.fn 72) [.ptr rb 0 0,.agg [a8 v1,aG v2]] H =
 some (.tup [aB (decide ((oz (bZ ⟨v1,v2⟩ b.used)).opens<(pE us0 qs gr0 v1 v2).opens)),aB (decide ((oz (bZ ⟨v1,v2⟩ b.used)).ops<(pE us0 qs gr0 v1 v2).ops))],H')∧cE H H':=by
 refine fA (fn:=Tryz.f72) (c:=iR) (by kernel_rfl) (by kernel_rfl) (by kernel_rfl) (by kernel_rfl) (by kernel_rfl) ?_
 refine ni _ _ _ _ _ fun g=>?_
 obtain⟨xu,xq,yu,yq,wu,wq,xr,rs,ru,xh,vh,h1,h2,h3,h4,h5,h6,h7,h8,h9⟩:=hb.box
 have hQ:=Ki (gr:=gr0) h2 h3 (by omega) (by omega) v1 v2
 have l1:(H.get rb).isSome=true:=by rw[h1];rfl
 have l7:(H.get ru).isSome=true:=by rw[h7];rfl
 have hlk:=fun(H':ab)(h:H'.get ru=some (bw (cH tF b.used)))=>BJ (g:=H'.get) hok.used h ⟨v1,v2⟩
 have c4:=h4.s.cells
 have c5:=h5.s.cells
 have c8:=h8.cells
 generalize pE us0 qs gr0 v1 v2=q at *
 generalize oz (bZ ⟨v1,v2⟩ b.used)=u at *
 obtain⟨q1,q2,q3,q4,q5⟩:=q
 obtain⟨u1,u2,u3⟩:=u
 have hfin : ∀b1 b2 b3:bN,cE H ((⟨dep+1,8,H.gen (dep+1) 8,0⟩,some b3) :: (⟨dep+1,6,H.gen (dep+1) 6,0⟩,some b2) :: (⟨dep+1,3,H.gen (dep+1) 3,0⟩,some b1) :: H):=fun b1 b2 b3=>⟨by simp(maxDischargeDepth:=12) [ab.get_put,aq,an,Fr.nil,aD,ah,ai,ae,af,ar,ao,ad, *],fun q c hq=>by
  have lq:(H.get q).isSome=true:=by rw[hq];rfl
  simp[ah hF lq,hq]⟩
 clear hb h4 h5 h8 hok
 simp[ah,ai,ae,af,ad, *,iW,h2.r,h3.r,bu.enc,vR.av]
def tA(b:fF)(qs:List bu)(user:Int)(v1:UInt8)(v2:UInt32):Bool:=decide (wP b.us qs b.gr v1=0)&&Ca b.us user v1 v2
theorem Oa(user:Int)(v1:UInt8)(v2:UInt32) : ∃H',bV env dep (.fn 73) [.ptr rb 0 0,aI user,.agg [a8 v1,aG v2]] H=some (aB (tA b qs user v1 v2),H')∧cE H H':=by
 refine fA (fn:=Tryz.f73) (c:=jm) (by kernel_rfl) (by kernel_rfl) (by kernel_rfl) (by kernel_rfl) (by kernel_rfl) ?_
 refine nF _ _ _ _ _ _ fun g=>?_
 obtain⟨xu,xq,yu,yq,wu,wq,xr,rs,ru,xh,vh,h1,h2,h3,h4,h5,h6,h7,h8,h9⟩:=hb.box
 have hM:=SP (gr:=b.gr) h4.s.sl h5.s.sl (by omega) (by have:=hok.few;omega) user v1 v2
 have l1:(H.get rb).isSome=true:=by rw[h1];rfl
 have c4:=fun b1=>(h4.s.cons hF (dep+1) 5 (some b1)).r
 have c5:=fun b1=>(h5.s.cons hF (dep+1) 5 (some b1)).r
 have d4:=h4.s.cells
 have d5:=h5.s.cells
 have c8:=h8.cells
 have hg0:=cE.refl hF
 have hfin : ∀b1:bN,cE H ((⟨dep+1,5,H.gen (dep+1) 5,0⟩,some b1) :: H):=fun b1=>cE.cons hF _ _ _
 unfold tA
 clear hb h4 h5 h8 hok
 generalize Ca b.us user v1 v2=ob at *
 by_cases hp:wP b.us qs b.gr v1=0
 ·rw[hp]at hM
  cases ob<;>simp[ah,ai,ae,af,ad, *,fy,h2.r,h3.r,hp]
 ·cases ob<;>simp[ah,ai,ae,af,ad, *,fy,h2.r,h3.r,hp]
def o9(us0:List Clear)(qs:List bu)(gr0:Int)(b:fF)(o:bG):Int :=
 if mA b.dZ o≠0 then mA b.dZ o else if o.kind=1∧(pE us0 qs gr0 o.h.lv o.h.cats).cells<IntKind.i64.wrap ((oz (bZ ⟨o.h.lv,o.h.cats⟩ b.used)).cells+o.s.many) then 9 else 0
theorem II(bh:UInt8)(aQ:UInt8)(aP:UInt32)(aW:UInt8)(aY:Int)(bc:UInt8)(ba:UInt32)(bf:UInt8)(bg:Int)(au:Int)(az:UInt8)(ay:UInt32)(ax:UInt8)(aw:Int)(aC:UInt8)(aA:UInt32){x:AV}{al:List Int}(hx:Sl 1 (rows al) x)(hal:al.length<1000000) : ∃H',bV env dep (.fn 76) [.ptr rb 0 0,.agg [a8 bh,a8 aQ,aG aP,a8 aW,aI aY,a8 bc,aG ba,a8 bf,aI bg,aI au,a8 az,aG ay,a8 ax,aI aw,a8 aC,aG aA,x]] H=some (aI (o9 us0 qs gr0 b (⟨bh,⟨aQ,aP,aW⟩,aY,⟨⟨⟨bc,ba,bf⟩,bg⟩,au⟩,⟨⟨az,ay,ax⟩,aw⟩,⟨aC,aA⟩,al⟩:bG)),H')∧cE H H':=by
 refine fA (fn:=Tryz.f76) (c:=hX) (by kernel_rfl) (by kernel_rfl) (by kernel_rfl) (by kernel_rfl) (by kernel_rfl) ?_
 refine md _ _ _ _ _ fun g=>?_
 obtain⟨xu,xq,yu,yq,wu,wq,xr,rs,ru,xh,vh,h1,h2,h3,h4,h5,h6,h7,h8,h9⟩:=hb.box
 have hQ:=Ki (gr:=gr0) h2 h3 (by omega) (by omega) aQ aP
 have hD:=Lq h8.sl hok.dZ hok.many bh aQ aP aW aY bc ba bf bg au az ay ax aw aC aA hx hal
 have l1:(H.get rb).isSome=true:=by rw[h1];rfl
 have l7:(H.get ru).isSome=true:=by rw[h7];rfl
 have hlk:=fun(H':ab)(h:H'.get ru=some (bw (cH tF b.used)))=>BJ (g:=H'.get) hok.used h ⟨aQ,aP⟩
 have c4:=h4.s.cells
 have c5:=h5.s.cells
 have c8:=fun b1=>(h8.cons hF (dep+1) 3 (some b1)).r
 have d8:=h8.cells
 have hg0:=cE.refl hF
 have hfin1 : ∀b1:bN,cE H ((⟨dep+1,3,H.gen (dep+1) 3,0⟩,some b1) :: H):=fun b1=>cE.cons hF _ _ _
 have hfin : ∀b1 b2:bN,cE H ((⟨dep+1,6,H.gen (dep+1) 6,0⟩,some b2) :: (⟨dep+1,3,H.gen (dep+1) 3,0⟩,some b1) :: H):=fun b1 b2=>⟨by simp(maxDischargeDepth:=12) [ab.get_put,aq,an,Fr.nil,aD,ah,ai,ae,af,ar,ao,ad, *],fun q c hq=>by
  have lq:(H.get q).isSome=true:=by rw[hq];rfl
  simp[ah hF lq,hq]⟩
 unfold o9
 simp only
 generalize pE us0 qs gr0 aQ aP=q at *
 generalize oz (bZ ⟨aQ,aP⟩ b.used)=u at *
 generalize mA b.dZ (⟨bh,⟨aQ,aP,aW⟩,aY,⟨⟨⟨bc,ba,bf⟩,bg⟩,au⟩,⟨⟨az,ay,ax⟩,aw⟩,⟨aC,aA⟩,al⟩:bG)=e at *
 obtain⟨q1,q2,q3,q4,q5⟩:=q
 obtain⟨u1,u2,u3⟩:=u
 clear hb h4 h5 h8 hok
 by_cases he:e=0
 ·by_cases hk:bh=1
  ·subst hk
   by_cases hc:q5<IntKind.i64.wrap (u3+au)
   ·simp[ah,ai,ae,af,ad, *,cL,h2.r,h3.r,hx.r,bu.enc,vR.av]
   ·simp[ah,ai,ae,af,ad, *,cL,h2.r,h3.r,hx.r,bu.enc,vR.av]
  ·simp[ah,ai,ae,af,ad, *,cL,h2.r,h3.r,hx.r,bu.enc,vR.av]
 ·simp[ah,ai,ae,af,ad, *,cL,h2.r,h3.r,hx.r,bu.enc,vR.av]
end
end Go.Proofs.YtdbiffjdomokfaaGreat
namespace Go.Proofs.YtdbiffjdomokfaaGreat
open Go.Ab
attribute [local simp] bD bp bl bC bB cV lj bP bt bA dc db cg bR aV cm List.take_of_length_le
theorem xd(g:dk)(a b:List Ref):ic g (a++b)=(ic g a&&ic g b):=by
 unfold ic;rw[List.all_append]
theorem ER{f:FuncId}(hm:(env.mode f == 2)=true){dep:Nat}{H:ab}{args:List AV}{y:AV}(h : ∃H',bV env dep (.fn f) args H=some (y,H')∧cE H H')(hf:flat depth y=true)(r:Ref) :
 kN env true (bj env) (bV env dep) H r (some (.fn (.func f) [] [])) args=some (y,H):=by
 obtain⟨H',h1,h2⟩:=h
 have hm':env.mode f=2:=by simpa using hm
 have e:([]++args++[]:List AV)=args:=by simp
 have hs:env.sm.f H H'=true:=HL h2.old
 simp only[kN,ik,kJ,if_pos hm',e,h1,bm,A3,Option.map_none,cond_true]
 show m3 true env.sm H (some (y,H'))=_
 simp only[m3,hf,hs,Bool.or_true,Bool.and_true,if_true]
@[simp] theorem W7(y:AV):nJ AV.undef y=true:=id rfl
def jZ(b:fF)(o:bG):vS:=oJ (bZ o.h b.ses)
def jf(b:fF)(o:bG):vR:=oz (bZ ⟨o.h.lv,o.h.cats⟩ b.used)
def CI(us0:List Clear)(qs:List bu)(gr0:Int)(b:fF)(r:gA):Bool :=
 !(jZ b r.op).o&&(tA b qs r.user r.op.h.lv r.op.h.cats&&decide ((jf b r.op).opens<(pE us0 qs gr0 r.op.h.lv r.op.h.cats).opens))
def yY(us0:List Clear)(qs:List bu)(gr0:Int)(b:fF)(r:gA):Bool :=
 (jZ b r.op).o&&(tA b qs (jZ b r.op).u r.op.h.lv r.op.h.cats&&(decide (r.op.serial=IntKind.i64.wrap ((jZ b r.op).s+1))&&(decide ((jf b r.op).ops<(pE us0 qs gr0 r.op.h.lv r.op.h.cats).ops)&&decide (r.code=o9 us0 qs gr0 b r.op))))
def CH(qs:List bu)(b:fF)(r:gA):Bool:=decide (vK b.us qs b.gr r.gu r.gv r.gc r.gok=0)
section
variable(dep:Nat){H:ab}(hF:Fr H){rb:Ref}{us0:List Clear}{qs:List bu}{gr0:Int}{b:fF}(hb:Ar H rb us0 qs gr0 b)(hok:ud b)(hul:us0.length<1000000)(hql:qs.length<1000000)
include hF hb hok hul hql
theorem Tz(k:UInt8)(u:Int)(bh:UInt8)(aQ:UInt8)(aP:UInt32)(aW:UInt8)(aY:Int)(bc:UInt8)(ba:UInt32)(bf:UInt8)(bg:Int)(au:Int)(az:UInt8)(ay:UInt32)(ax:UInt8)(aw:Int)(aC:UInt8)(aA:UInt32)(c g1:Int)(v:UInt8)(w:UInt32)(o:Bool){x:AV}{al:List Int}(hx:Sl 1 (rows al) x) :
 ∃H',bV env dep (.fn 71) [.ptr rb 0 0,.agg [a8 k,aI u,a8 bh,a8 aQ,aG aP,a8 aW,aI aY,a8 bc,aG ba,a8 bf,aI bg,aI au,a8 az,aG ay,a8 ax,aI aw,a8 aC,aG aA,x,aI c,aI g1,a8 v,aG w,aB o]] H=some (aB (CI us0 qs gr0 b ⟨k,u,(⟨bh,⟨aQ,aP,aW⟩,aY,⟨⟨⟨bc,ba,bf⟩,bg⟩,au⟩,⟨⟨az,ay,ax⟩,aw⟩,⟨aC,aA⟩,al⟩:bG),c,g1,v,w,o⟩),H')∧cE H H':=by
 refine fA (fn:=Tryz.f71) (c:=rH) (by kernel_rfl) (by kernel_rfl) (by kernel_rfl) (by kernel_rfl) (by kernel_rfl) ?_
 refine xX _ _ _ _ _ fun g=>?_
 have hg1 : ∀b1:bN,cE H ((⟨dep+1,3,H.gen (dep+1) 3,0⟩,some b1) :: H):=fun b1=>cE.cons hF _ _ _
 have hL:=KD (dep+1) (hg1 ⟨24,[.agg [a8 k,aI u,a8 bh,a8 aQ,aG aP,a8 aW,aI aY,a8 bc,aG ba,a8 bf,aI bg,aI au,a8 az,aG ay,a8 ax,aI aw,a8 aC,aG aA,x,aI c,aI g1,a8 v,aG w,aB o]],false,false⟩).fr (hb.grow (hg1 _)) hok hul hql aQ aP
 simp[ah,ai,ae,af,ad, *,rO,hx.r]
 refine k6 (by kernel_rfl) hL fun H2 hG=>?_
 have hG2:=(hg1 _).trans hG
 have hbx:=hG.old ⟨dep+1,3,H.gen (dep+1) 3,0⟩ _ (by simp;rfl)
 have hb2:=hb.grow hG2
 obtain⟨xu,xq,yu,yq,wu,wq,xr,rs,ru,xh,vh,h1,h2,h3,h4,h5,h6,h7,h8,h9⟩:=hb2.box
 have hlk:=Fl (g:=H2.get) hok.ses h6 ⟨aQ,aP,aW⟩
 have hM:=Oa (dep+1) hG2.fr hb2 hok hul hql u aQ aP
 have c4:=h4.s.cells
 have c5:=h5.s.cells
 have c8:=h8.cells
 unfold CI jZ jf
 simp only
 generalize tA b qs u aQ aP=mn at *
 generalize decide ((oz (bZ ⟨aQ,aP⟩ b.used)).opens<(pE us0 qs gr0 aQ aP).opens)=lo at *
 generalize oJ (bZ ⟨aQ,aP,aW⟩ b.ses)=ss at *
 obtain⟨s1,s2,s3⟩:=ss
 cases s1 with
 | true=>simp[hbx,h1,hlk,hx.r,c4,c5,c8,h2.r,h3.r,vS.av,hG2]
 | false =>
  simp[hbx,h1,hlk,hx.r,c4,c5,c8,h2.r,h3.r,vS.av]
  refine k6 (by kernel_rfl) hM fun H3 hG3=>?_
  have hG4:=hG2.trans hG3
  cases mn<;>simp[hG4]
theorem Tx(k:UInt8)(u:Int)(bh:UInt8)(aQ:UInt8)(aP:UInt32)(aW:UInt8)(aY:Int)(bc:UInt8)(ba:UInt32)(bf:UInt8)(bg:Int)(au:Int)(az:UInt8)(ay:UInt32)(ax:UInt8)(aw:Int)(aC:UInt8)(aA:UInt32)(c g1:Int)(v:UInt8)(w:UInt32)(o:Bool){x:AV}{al:List Int}(hx:Sl 1 (rows al) x)(hal:al.length<1000000) :
 ∃H',bV env dep (.fn 75) [.ptr rb 0 0,.agg [a8 k,aI u,a8 bh,a8 aQ,aG aP,a8 aW,aI aY,a8 bc,aG ba,a8 bf,aI bg,aI au,a8 az,aG ay,a8 ax,aI aw,a8 aC,aG aA,x,aI c,aI g1,a8 v,aG w,aB o]] H=some (aB (yY us0 qs gr0 b ⟨k,u,(⟨bh,⟨aQ,aP,aW⟩,aY,⟨⟨⟨bc,ba,bf⟩,bg⟩,au⟩,⟨⟨az,ay,ax⟩,aw⟩,⟨aC,aA⟩,al⟩:bG),c,g1,v,w,o⟩),H')∧cE H H':=by
 refine fA (fn:=Tryz.f75) (c:=rF) (by kernel_rfl) (by kernel_rfl) (by kernel_rfl) (by kernel_rfl) (by kernel_rfl) ?_
 refine xV _ _ _ _ _ fun g=>?_
 have hgr : ∀b1 b2:bN,cE H ((⟨dep+1,5,H.gen (dep+1) 5,0⟩,some b2) :: (⟨dep+1,3,H.gen (dep+1) 3,0⟩,some b1) :: H):=fun b1 b2=>⟨by simp(maxDischargeDepth:=12) [ab.get_put,aq,an,Fr.nil,aD,ah,ai,ae,af,ar,ao,ad, *],fun q c hq=>by
  have lq:(H.get q).isSome=true:=by rw[hq];rfl
  simp[ah hF lq,hq]⟩
 obtain⟨xu,xq,yu,yq,wu,wq,xr,rs,ru,xh,vh,h1,h2,h3,h4,h5,h6,h7,h8,h9⟩:=hb.box
 have l1:(H.get rb).isSome=true:=by rw[h1];rfl
 have l6:(H.get rs).isSome=true:=by rw[h6];rfl
 have c4:=h4.s.cells
 have c5:=h5.s.cells
 have c8:=h8.cells
 have hlk:=fun(H':ab)(h:H'.get rs=some (bw (cH vk b.ses)))=>Fl (g:=H'.get) hok.ses h ⟨aQ,aP,aW⟩
 unfold yY jZ jf
 simp only
 generalize hss:oJ (bZ ⟨aQ,aP,aW⟩ b.ses)=ss at *
 obtain⟨s1,s2,s3⟩:=ss
 simp[ah,ai,ae,af,ad, *,rM,hx.r,h1,h6,hlk,vS.av]
 refine k6 (by kernel_rfl) (KD (dep+1) (hgr _ _).fr (hb.grow (hgr _ _)) hok hul hql _ _) fun H4 hG=>?_
 have hG2:=(hgr _ _).trans hG
 have b3:=hG.old ⟨dep+1,3,H.gen (dep+1) 3,0⟩ _ (by simp;rfl)
 have b5:=hG.old ⟨dep+1,5,H.gen (dep+1) 5,0⟩ _ (by simp;rfl)
 have hb4:=hb.grow hG2
 have hM:=ER (by kernel_rfl) (Oa (dep+1) hG.fr hb4 hok hul hql s2 aQ aP) rfl
 have hV:=ER (by kernel_rfl) (II (dep+1) hG.fr hb4 hok hul hql bh aQ aP aW aY bc ba bf bg au az ay ax aw aC aA hx hal) rfl
 generalize tA b qs s2 aQ aP=mn at *
 generalize decide ((oz (bZ ⟨aQ,aP⟩ b.used)).opens<(pE us0 qs gr0 aQ aP).opens)=lo at *
 generalize decide ((oz (bZ ⟨aQ,aP⟩ b.used)).ops<(pE us0 qs gr0 aQ aP).ops)=lp at *
 generalize o9 us0 qs gr0 b (⟨bh,⟨aQ,aP,aW⟩,aY,⟨⟨⟨bc,ba,bf⟩,bg⟩,au⟩,⟨⟨az,ay,ax⟩,aw⟩,⟨aC,aA⟩,al⟩:bG)=ve at *
 have hH4:=hG.fr
 clear hb hb4 h4 h5 h8 hok hlk
 cases s1 with
 | false=>simp[b3,b5,hx.r,kH,hG2]
 | true =>
 cases mn with
 | false=>simp[b3,b5,hx.r,kH,hM,hG2]
 | true =>
 by_cases he:aY=IntKind.i64.wrap (s3+1)
 ·subst he
  cases lp with
  | false=>simp[b3,b5,hx.r,kH,hM,hG2]
  | true=>simp[b3,b5,hx.r,kH,hM,hV,hG2]
 ·simp[b3,b5,hx.r,kH,hM,he,hG2]
theorem Tv(k:UInt8)(u:Int)(bh:UInt8)(aQ:UInt8)(aP:UInt32)(aW:UInt8)(aY:Int)(bc:UInt8)(ba:UInt32)(bf:UInt8)(bg:Int)(au:Int)(az:UInt8)(ay:UInt32)(ax:UInt8)(aw:Int)(aC:UInt8)(aA:UInt32)(c g1:Int)(v:UInt8)(w:UInt32)(o:Bool){x:AV}{al:List Int}(hx:Sl 1 (rows al) x) :
 ∃H',bV env dep (.fn 79) [.ptr rb 0 0,.agg [a8 k,aI u,a8 bh,a8 aQ,aG aP,a8 aW,aI aY,a8 bc,aG ba,a8 bf,aI bg,aI au,a8 az,aG ay,a8 ax,aI aw,a8 aC,aG aA,x,aI c,aI g1,a8 v,aG w,aB o]] H=some (aB (CH qs b ⟨k,u,(⟨bh,⟨aQ,aP,aW⟩,aY,⟨⟨⟨bc,ba,bf⟩,bg⟩,au⟩,⟨⟨az,ay,ax⟩,aw⟩,⟨aC,aA⟩,al⟩:bG),c,g1,v,w,o⟩),H')∧cE H H':=by
 refine fA (fn:=Tryz.f79) (c:=rE) (by kernel_rfl) (by kernel_rfl) (by kernel_rfl) (by kernel_rfl) (by kernel_rfl) ?_
 refine xU _ _ _ _ _ fun g=>?_
 obtain⟨xu,xq,yu,yq,wu,wq,xr,rs,ru,xh,vh,h1,h2,h3,h4,h5,h6,h7,h8,h9⟩:=hb.box
 have l1:(H.get rb).isSome=true:=by rw[h1];rfl
 have c4:=fun b1=>(h4.s.cons hF (dep+1) 3 (some b1)).r
 have c5:=fun b1=>(h5.s.cons hF (dep+1) 3 (some b1)).r
 have d4:=h4.s.cells
 have d5:=h5.s.cells
 have d8:=h8.cells
 have hfin : ∀b1 b2:bN,cE H ((⟨dep+1,5,H.gen (dep+1) 5,0⟩,some b2) :: (⟨dep+1,3,H.gen (dep+1) 3,0⟩,some b1) :: H):=fun b1 b2=>⟨by simp(maxDischargeDepth:=12) [ab.get_put,aq,an,Fr.nil,aD,ah,ai,ae,af,ar,ao,ad, *],fun q c hq=>by
  have lq:(H.get q).isSome=true:=by rw[hq];rfl
  simp[ah hF lq,hq]⟩
 unfold CH
 simp only
 have hfew:=hok.few
 by_cases he:vK b.us qs b.gr g1 v w o=0
 ·obtain⟨yy,hyy,hA⟩:=GO (gr:=b.gr) h4.s.sl h5.s.sl (by omega) (by omega) g1 v w o he
  have z4:=(kj.grow h4 (cE.cons hF (dep+1) 3 ⟨24,[.agg [a8 k,aI u,a8 bh,a8 aQ,aG aP,a8 aW,aI aY,a8 bc,aG ba,a8 bf,aI bg,aI au,a8 az,aG ay,a8 ax,aI aw,a8 aC,aG aA,x,aI c,aI g1,a8 v,aG w,aB o]],false,false⟩)).refs 6
  have z5:=(kj.grow h5 (cE.cons hF (dep+1) 3 ⟨24,[.agg [a8 k,aI u,a8 bh,a8 aQ,aG aP,a8 aW,aI aY,a8 bc,aG ba,a8 bf,aI bg,aI au,a8 az,aG ay,a8 ax,aI aw,a8 aC,aG aA,x,aI c,aI g1,a8 v,aG w,aB o]],false,false⟩)).refs 6
  have hyr:=hyy.r
  clear hb h4 h5 h8 hok
  simp[ah,ai,ae,af,ad, *,oo,hx.r,h2.r,h3.r,xd]
  done
 ·have hA:=Lp (gr:=b.gr) h4.s.sl h5.s.sl (by omega) (by omega) g1 v w o he
  clear hb h4 h5 h8 hok
  simp[ah,ai,ae,af,ad, *,oo,hx.r,h2.r,h3.r]
end
end Go.Proofs.YtdbiffjdomokfaaGreat
