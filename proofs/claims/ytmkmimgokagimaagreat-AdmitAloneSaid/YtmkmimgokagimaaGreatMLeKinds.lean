/-
  What a log tells, under way: what is asked of it. No statement of a seat is proved here.
-/
import Derived.Test.YtmkmimgokagimaaGreatMLeDoc7
import Derived.Test.YtmkmimgokagimaaGreatLeApp
import Derived.Test.YtmkmimgokagimaaGreatLeQuota
import Derived.Test.YtmkmimgokagimaaGreatLeVc9
set_option linter.unusedVariables false
set_option linter.unusedSimpArgs false
set_option linter.unusedSectionVars false
set_option linter.unnecessarySimpa false
set_option maxRecDepth 100000
namespace Go.Proofs.YtmkmimgokagimaaGreat
open Go.Ab
attribute [local simp] bJ bw bt bG bF cL kN bX bx bD cR cQ cr bY bh ct List.take_of_length_le
structure uY where
 o:Bool
 u:Int
 s:Int
structure xB where
 opens:Int
 ops:Int
 cells:Int
def uY.av(s:uY):AV := .agg [aB s.o,aI s.u,aI s.s]
def xB.av(u:xB):AV := .agg [a8 0,aF 0,aI u.opens,aI u.ops,aI u.cells]
def gG:Option AV→uY
 | some (.agg [.v (.bool o),.v (.int _ u),.v (.int _ s)])=>⟨o,u,s⟩
 | _=>⟨false,0,0⟩
def nu:Option AV→xB
 | some (.agg [_,_,.v (.int _ x),.v (.int _ y),.v (.int _ z)])=>⟨x,y,z⟩
 | _=>⟨0,0,0⟩
@[simp] theorem Eg(s:uY):gG (some s.av)=s:=by cases s;rfl
@[simp] theorem MZ(u:xB):nu (some u.av)=u:=by cases u;rfl
def P5(l:List (nY × AV)):Prop :=∀p∈l,∃s:uY,p.2=s.av
def PL(l:List (jS × AV)):Prop :=∀p∈l,∃u:xB,p.2=u.av
theorem IK{K:Type}[DecidableEq K]{P:AV→Prop} : ∀ {l:List (K × AV)} (h : ∀p∈l,P p.2) (k:K),bH k l=none ∨∃x,bH k l=some x∧P x
 | [],_,_ => .inl rfl
 | p :: l,h,k=>by
  unfold bH
  split
  ·exact .inr ⟨p.2,rfl,h p List.mem_cons_self⟩
  ·exact IK (fun q hq=>h q (List.mem_cons_of_mem _ hq)) k
theorem AS{K:Type}[DecidableEq K]{P:AV→Prop}{k:K}{x:AV}(hx:P x) : ∀ {l:List (K × AV)} (h : ∀p∈l,P p.2),∀p∈fO k x l,P p.2
 | [],_=>by intro p hp;simp[fO]at hp;rw[hp];exact hx
 | q :: l,h=>by
  intro p hp
  unfold fO at hp
  split at hp
  ·rcases List.mem_cons.1 hp with rfl | hp
   ·exact hx
   ·exact h p (List.mem_cons_of_mem _ hp)
  ·rcases List.mem_cons.1 hp with rfl | hp
   ·exact h _ List.mem_cons_self
   ·exact AS hx (fun p hp=>h p (List.mem_cons_of_mem _ hp)) p hp
theorem P4{l:List (nY × AV)}(h:P5 l)(k:nY):(bH k l).getD (.agg [aB false,aI 0,aI 0])=(gG (bH k l)).av:=by
 rcases IK (P:=fun x =>∃s:uY,x=s.av) h k with e | ⟨x,e,s,rfl⟩
 ·rw[e];rfl
 ·rw[e,Eg];rfl
theorem PK{l:List (jS × AV)}(h:PL l)(k:jS):(bH k l).getD (.agg [a8 0,aF 0,aI 0,aI 0,aI 0])=(nu (bH k l)).av:=by
 rcases IK (P:=fun x =>∃u:xB,x=u.av) h k with e | ⟨x,e,u,rfl⟩
 ·rw[e];rfl
 ·rw[e,MZ];rfl
def ik(z:Nat)(es:List AV)(H:ad)(x y:AV):Prop:=(x=y∧Sl z es y) ∨∃r c,x = .cP r 0 es.length c∧H.get r=some ⟨z,es,true,true⟩∧y = .ck z es c∧es.length≤c.getD es.length
theorem ik.s{z:Nat}{es:List AV}{H:ad}{x y:AV}(h:ik z es H x y):iP z es H x y:=by
 rcases h with h | ⟨r,c,h1,h2,h3,h4⟩
 ·exact .inl h
 ·exact .inr ⟨r,c,true,h1,h2,h3,h4⟩
theorem ik.refs{z:Nat}{es:List AV}{H:ad}{x y:AV}(h:ik z es H x y)(n:Nat):iF H.get (aM H.get (n+1) x)=true:=by
 rcases h with ⟨rfl,h⟩ | ⟨r,c,rfl,hr,rfl,hc⟩
 ·rw[h.refs];rfl
 ·simp[hr]
theorem ik.of{z:Nat}{es:List AV}{x:AV}(h:Sl z es x)(H:ad):ik z es H x x := .inl ⟨rfl,h⟩
structure ep where
 us:List Clear
 gr:Int
 ses:List (nY × AV)
 used:List (jS × AV)
 dE:List (bz × AV)
structure ni (b:ep):Prop where
 ses:P5 b.ses
 used:PL b.used
 dE : ∀p∈b.dE,L8 p∧p.1.l.length<1000000
 many:b.dE.length<10000
 few:b.us.length<1000000
structure C1 (H:ad) (rb:Ref) (us0:List Clear) (qs:List bn) (gr0:Int) (b:ep):Prop where
 box : ∃xu xq yu yq wu wq xr rs ru xh vh,H.get rb=some ⟨10,[.agg [xu,xq,aI gr0,yu,yq,aI b.gr,xr,.mp rs,.mp ru,xh]],false,false⟩∧Sl 3 (ed us0) xu∧Sl 5 (ef qs) xq∧ik 3 (ed b.us) H yu wu∧ik 5 (ef qs) H yq wq ∧
  H.get rs=some (bE (cI xA b.ses))∧H.get ru=some (bE (cI vx b.used))∧iP 17 (ff b.dE) H xh vh∧xr.cells=[xr]∧xr.one=true
theorem ik.grow{z:Nat}{es:List AV}{H H':ad}{x y:AV}(h:ik z es H x y)(g:bQ H H'):ik z es H' x y:=by
 rcases h with h | ⟨r,c,rfl,hr,rfl,hc⟩
 ·exact .inl h
 ·exact .inr ⟨r,c,rfl,g.old _ _ hr,rfl,hc⟩
theorem iP.grow{z:Nat}{es:List AV}{H H':ad}{x y:AV}(h:iP z es H x y)(g:bQ H H'):iP z es H' x y:=by
 rcases h with h | ⟨r,c,fz,rfl,hr,rfl,hc⟩
 ·exact .inl h
 ·exact .inr ⟨r,c,fz,rfl,g.old _ _ hr,rfl,hc⟩
theorem C1.grow{H H':ad}{rb:Ref}{us0:List Clear}{qs:List bn}{gr0:Int}{b:ep}(h:C1 H rb us0 qs gr0 b)(g:bQ H H'):C1 H' rb us0 qs gr0 b:=by
 obtain⟨xu,xq,yu,yq,wu,wq,xr,rs,ru,xh,vh,h1,h2,h3,h4,h5,h6,h7,h8,h9⟩:=h.box
 exact⟨xu,xq,yu,yq,wu,wq,xr,rs,ru,xh,vh,g.old _ _ h1,h2,h3,ik.grow h4 g,ik.grow h5 g,g.old _ _ h6,g.old _ _ h7,iP.grow h8 g,h9⟩
theorem ER{g:dy}{rs:Ref}{l:List (nY × AV)}(hb:P5 l)(hr:g rs=some (bE (cI xA l)))(h:nY):cS env.P g 126 (some (.mp rs)) (some (.agg [a8 h.lv,aF h.cats,a8 h.num])) false=some ((gG (bH h l)).av,[]):=by
 have e:=xQ IN FB (t:=126) (et:=73) (by kernel_rfl) (z := .agg [aB false,aI 0,aI 0]) (by kernel_rfl) hr h false
 rw[P4 hb]at e
 exact e
theorem Cl{g:dy}{ru:Ref}{l:List (jS × AV)}(hb:PL l)(hr:g ru=some (bE (cI vx l)))(v:jS):cS env.P g 127 (some (.mp ru)) (some (.agg [a8 v.lv,aF v.cats])) false=some ((nu (bH v l)).av,[]):=by
 have e:=xQ IM Fv (t:=127) (et:=81) (by kernel_rfl) (z := .agg [a8 0,aF 0,aI 0,aI 0,aI 0]) (by kernel_rfl) hr v false
 rw[PK hb]at e
 exact e
section
variable(dep:Nat){H:ad}(hF:Fr H){rb:Ref}{us0:List Clear}{qs:List bn}{gr0:Int}{b:ep}(hb:C1 H rb us0 qs gr0 b)(hok:ni b)(hul:us0.length<1000000)(hql:qs.length<1000000)
include hF hb hok hul hql
theorem Nu(v1:UInt8)(v2:UInt32) : ∃H',bO env dep (.fn 146) [.ptr rb 0 0,.agg [a8 v1,aF v2]] H =
 some (.tup [aB (decide ((nu (bH ⟨v1,v2⟩ b.used)).opens<(jO us0 qs gr0 v1 v2).opens)),aB (decide ((nu (bH ⟨v1,v2⟩ b.used)).ops<(jO us0 qs gr0 v1 v2).ops))],H')∧bQ H H':=by
 refine eO (fn:=Tryz.f146) (c:=ji) (by kernel_rfl) (by kernel_rfl) (by kernel_rfl) (by kernel_rfl) (by kernel_rfl) ?_
 refine oH _ _ _ _ _ fun g=>?_
 obtain⟨xu,xq,yu,yq,wu,wq,xr,rs,ru,xh,vh,h1,h2,h3,h4,h5,h6,h7,h8,h9⟩:=hb.box
 have hQ:=Is (gr:=gr0) h2 h3 (by omega) (by omega) v1 v2
 have l1:(H.get rb).isSome=true:=by rw[h1];rfl
 have l7:(H.get ru).isSome=true:=by rw[h7];rfl
 have hlk:=fun(H':ad)(h:H'.get ru=some (bE (cI vx b.used)))=>Cl (g:=H'.get) hok.used h ⟨v1,v2⟩
 have c4:=h4.s.cells
 have c5:=h5.s.cells
 have c8:=h8.cells
 generalize jO us0 qs gr0 v1 v2=q at *
 generalize nu (bH ⟨v1,v2⟩ b.used)=u at *
 obtain⟨q1,q2,q3,q4,q5⟩:=q
 obtain⟨u1,u2,u3⟩:=u
 have hfin : ∀b1 b2 b3:bP,bQ H ((⟨dep+1,8,H.gen (dep+1) 8,0⟩,some b3) :: (⟨dep+1,6,H.gen (dep+1) 6,0⟩,some b2) :: (⟨dep+1,3,H.gen (dep+1) 3,0⟩,some b1) :: H):=fun b1 b2 b3=>⟨by simp(maxDischargeDepth:=12) [ad.ao,aD,aq,Fr.nil,aJ,ah,ai,ae,af,aC,ar,ab, *],fun q c hq=>by
  have lq:(H.get q).isSome=true:=by rw[hq];rfl
  simp[ah hF lq,hq]⟩
 clear hb h4 h5 h8 hok
 simp[ah,ai,ae,af,ab, *,jn,h2.r,h3.r,bn.enc,xB.av]
def m8(b:ep)(qs:List bn)(user:Int)(v1:UInt8)(v2:UInt32):Bool:=decide (nv b.us qs b.gr v1=0)&&nQ b.us user v1 v2
theorem Q7(user:Int)(v1:UInt8)(v2:UInt32) : ∃H',bO env dep (.fn 147) [.ptr rb 0 0,aI user,.agg [a8 v1,aF v2]] H=some (aB (m8 b qs user v1 v2),H')∧bQ H H':=by
 refine eO (fn:=Tryz.f147) (c:=jH) (by kernel_rfl) (by kernel_rfl) (by kernel_rfl) (by kernel_rfl) (by kernel_rfl) ?_
 refine oW _ _ _ _ _ _ fun g=>?_
 obtain⟨xu,xq,yu,yq,wu,wq,xr,rs,ru,xh,vh,h1,h2,h3,h4,h5,h6,h7,h8,h9⟩:=hb.box
 have hM:=Ql (gr:=b.gr) h4.s.sl h5.s.sl (by omega) (by have:=hok.few;omega) user v1 v2
 have l1:(H.get rb).isSome=true:=by rw[h1];rfl
 have c4:=fun b1=>(h4.s.cons hF (dep+1) 5 (some b1)).r
 have c5:=fun b1=>(h5.s.cons hF (dep+1) 5 (some b1)).r
 have d4:=h4.s.cells
 have d5:=h5.s.cells
 have c8:=h8.cells
 have hg0:=bQ.refl hF
 have hfin : ∀b1:bP,bQ H ((⟨dep+1,5,H.gen (dep+1) 5,0⟩,some b1) :: H):=fun b1=>bQ.cons hF _ _ _
 unfold m8
 clear hb h4 h5 h8 hok
 generalize nQ b.us user v1 v2=ob at *
 by_cases hp:nv b.us qs b.gr v1=0
 ·rw[hp]at hM
  cases ob<;>simp[ah,ai,ae,af,ab, *,fE,h2.r,h3.r,hp]
 ·cases ob<;>simp[ah,ai,ae,af,ab, *,fE,h2.r,h3.r,hp]
def fc(us0:List Clear)(qs:List bn)(gr0:Int)(b:ep)(o:bz):Int :=
 if kz b.dE o≠0 then kz b.dE o else if o.kind=1∧(jO us0 qs gr0 o.h.lv o.h.cats).cells<IntKind.i64.wrap ((nu (bH ⟨o.h.lv,o.h.cats⟩ b.used)).cells+o.s.many) then 9 else 0
theorem Et(ba:UInt8)(aO:UInt8)(aN:UInt32)(aT:UInt8)(aV:Int)(aX:UInt8)(aW:UInt32)(aY:UInt8)(aZ:Int)(an:Int)(ay:UInt8)(ax:UInt32)(aw:UInt8)(au:Int)(aA:UInt8)(az:UInt32){x:AV}{al:List Int}(hx:Sl 1 (rows al) x)(hal:al.length<1000000) : ∃H',bO env dep (.fn 72) [.ptr rb 0 0,.agg [a8 ba,a8 aO,aF aN,a8 aT,aI aV,a8 aX,aF aW,a8 aY,aI aZ,aI an,a8 ay,aF ax,a8 aw,aI au,a8 aA,aF az,x]] H=some (aI (fc us0 qs gr0 b (⟨ba,⟨aO,aN,aT⟩,aV,⟨⟨⟨aX,aW,aY⟩,aZ⟩,an⟩,⟨⟨ay,ax,aw⟩,au⟩,⟨aA,az⟩,al⟩:bz)),H')∧bQ H H':=by
 refine eO (fn:=Tryz.f72) (c:=iy) (by kernel_rfl) (by kernel_rfl) (by kernel_rfl) (by kernel_rfl) (by kernel_rfl) ?_
 refine m7 _ _ _ _ _ fun g=>?_
 obtain⟨xu,xq,yu,yq,wu,wq,xr,rs,ru,xh,vh,h1,h2,h3,h4,h5,h6,h7,h8,h9⟩:=hb.box
 have hQ:=Is (gr:=gr0) h2 h3 (by omega) (by omega) aO aN
 have hD:=Oj h8.sl hok.dE hok.many ba aO aN aT aV aX aW aY aZ an ay ax aw au aA az hx hal
 have l1:(H.get rb).isSome=true:=by rw[h1];rfl
 have l7:(H.get ru).isSome=true:=by rw[h7];rfl
 have hlk:=fun(H':ad)(h:H'.get ru=some (bE (cI vx b.used)))=>Cl (g:=H'.get) hok.used h ⟨aO,aN⟩
 have c4:=h4.s.cells
 have c5:=h5.s.cells
 have c8:=fun b1=>(h8.cons hF (dep+1) 3 (some b1)).r
 have d8:=h8.cells
 have hg0:=bQ.refl hF
 have hfin1 : ∀b1:bP,bQ H ((⟨dep+1,3,H.gen (dep+1) 3,0⟩,some b1) :: H):=fun b1=>bQ.cons hF _ _ _
 have hfin : ∀b1 b2:bP,bQ H ((⟨dep+1,6,H.gen (dep+1) 6,0⟩,some b2) :: (⟨dep+1,3,H.gen (dep+1) 3,0⟩,some b1) :: H):=fun b1 b2=>⟨by simp(maxDischargeDepth:=12) [ad.ao,aD,aq,Fr.nil,aJ,ah,ai,ae,af,aC,ar,ab, *],fun q c hq=>by
  have lq:(H.get q).isSome=true:=by rw[hq];rfl
  simp[ah hF lq,hq]⟩
 unfold fc
 simp only
 generalize jO us0 qs gr0 aO aN=q at *
 generalize nu (bH ⟨aO,aN⟩ b.used)=u at *
 generalize kz b.dE (⟨ba,⟨aO,aN,aT⟩,aV,⟨⟨⟨aX,aW,aY⟩,aZ⟩,an⟩,⟨⟨ay,ax,aw⟩,au⟩,⟨aA,az⟩,al⟩:bz)=e at *
 obtain⟨q1,q2,q3,q4,q5⟩:=q
 obtain⟨u1,u2,u3⟩:=u
 clear hb h4 h5 h8 hok
 by_cases he:e=0
 ·by_cases hk:ba=1
  ·subst hk
   by_cases hc:q5<IntKind.i64.wrap (u3+an)
   ·simp[ah,ai,ae,af,ab, *,cM,h2.r,h3.r,hx.r,bn.enc,xB.av]
   ·simp[ah,ai,ae,af,ab, *,cM,h2.r,h3.r,hx.r,bn.enc,xB.av]
  ·simp[ah,ai,ae,af,ab, *,cM,h2.r,h3.r,hx.r,bn.enc,xB.av]
 ·simp[ah,ai,ae,af,ab, *,cM,h2.r,h3.r,hx.r,bn.enc,xB.av]
end
end Go.Proofs.YtmkmimgokagimaaGreat
namespace Go.Proofs.YtmkmimgokagimaaGreat
open Go.Ab
attribute [local simp] bJ bw bt bG bF cL kN bX bx bD cR cQ cr bY bh ct List.take_of_length_le
theorem zM(g:dy)(a b:List Ref):iF g (a++b)=(iF g a&&iF g b):=by
 unfold iF;rw[List.all_append]
theorem HK{f:FuncId}(hm:(env.mode f == 2)=true){dep:Nat}{H:ad}{args:List AV}{y:AV}(h : ∃H',bO env dep (.fn f) args H=some (y,H')∧bQ H H')(hf:flat depth y=true)(r:Ref) :
 lI env true (bj env) (bO env dep) H r (some (.fn (.func f) [] [])) args=some (y,H):=by
 obtain⟨H',h1,h2⟩:=h
 have hm':env.mode f=2:=by simpa using hm
 have e:([]++args++[]:List AV)=args:=by simp
 have hs:env.sm.f H H'=true:=KK h2.old
 simp only[lI,iI,lE,if_pos hm',e,h1,bg,DJ,Option.map_none,cond_true]
 show n7 true env.sm H (some (y,H'))=_
 simp only[n7,hf,hs,Bool.or_true,Bool.and_true,if_true]
@[simp] theorem aas(y:AV):o3 AV.undef y=true:=id rfl
def kP(b:ep)(o:bz):uY:=gG (bH o.h b.ses)
def jw(b:ep)(o:bz):xB:=nu (bH ⟨o.h.lv,o.h.cats⟩ b.used)
def FG(us0:List Clear)(qs:List bn)(gr0:Int)(b:ep)(r:fY):Bool :=
 !(kP b r.op).o&&(m8 b qs r.user r.op.h.lv r.op.h.cats&&decide ((jw b r.op).opens<(jO us0 qs gr0 r.op.h.lv r.op.h.cats).opens))
def Bx(us0:List Clear)(qs:List bn)(gr0:Int)(b:ep)(r:fY):Bool :=
 (kP b r.op).o&&(m8 b qs (kP b r.op).u r.op.h.lv r.op.h.cats&&(decide (r.op.serial=IntKind.i64.wrap ((kP b r.op).s+1))&&(decide ((jw b r.op).ops<(jO us0 qs gr0 r.op.h.lv r.op.h.cats).ops)&&decide (r.code=fc us0 qs gr0 b r.op))))
def FF(qs:List bn)(b:ep)(r:fY):Bool:=decide (yB b.us qs b.gr r.gu r.gv r.gc r.gok=0)
section
variable(dep:Nat){H:ad}(hF:Fr H){rb:Ref}{us0:List Clear}{qs:List bn}{gr0:Int}{b:ep}(hb:C1 H rb us0 qs gr0 b)(hok:ni b)(hul:us0.length<1000000)(hql:qs.length<1000000)
include hF hb hok hul hql
theorem WB(k:UInt8)(u:Int)(ba:UInt8)(aO:UInt8)(aN:UInt32)(aT:UInt8)(aV:Int)(aX:UInt8)(aW:UInt32)(aY:UInt8)(aZ:Int)(an:Int)(ay:UInt8)(ax:UInt32)(aw:UInt8)(au:Int)(aA:UInt8)(az:UInt32)(c g1:Int)(v:UInt8)(w:UInt32)(o:Bool){x:AV}{al:List Int}(hx:Sl 1 (rows al) x) :
 ∃H',bO env dep (.fn 145) [.ptr rb 0 0,.agg [a8 k,aI u,a8 ba,a8 aO,aF aN,a8 aT,aI aV,a8 aX,aF aW,a8 aY,aI aZ,aI an,a8 ay,aF ax,a8 aw,aI au,a8 aA,aF az,x,aI c,aI g1,a8 v,aF w,aB o]] H=some (aB (FG us0 qs gr0 b ⟨k,u,(⟨ba,⟨aO,aN,aT⟩,aV,⟨⟨⟨aX,aW,aY⟩,aZ⟩,an⟩,⟨⟨ay,ax,aw⟩,au⟩,⟨aA,az⟩,al⟩:bz),c,g1,v,w,o⟩),H')∧bQ H H':=by
 refine eO (fn:=Tryz.f145) (c:=tO) (by kernel_rfl) (by kernel_rfl) (by kernel_rfl) (by kernel_rfl) (by kernel_rfl) ?_
 refine Ay _ _ _ _ _ fun g=>?_
 have hg1 : ∀b1:bP,bQ H ((⟨dep+1,3,H.gen (dep+1) 3,0⟩,some b1) :: H):=fun b1=>bQ.cons hF _ _ _
 have hL:=Nu (dep+1) (hg1 ⟨24,[.agg [a8 k,aI u,a8 ba,a8 aO,aF aN,a8 aT,aI aV,a8 aX,aF aW,a8 aY,aI aZ,aI an,a8 ay,aF ax,a8 aw,aI au,a8 aA,aF az,x,aI c,aI g1,a8 v,aF w,aB o]],false,false⟩).fr (hb.grow (hg1 _)) hok hul hql aO aN
 simp[ah,ai,ae,af,ab, *,uo,hx.r]
 refine lg (by kernel_rfl) hL fun H2 hG=>?_
 have hG2:=(hg1 _).trans hG
 have hbx:=hG.old ⟨dep+1,3,H.gen (dep+1) 3,0⟩ _ (by simp;rfl)
 have hb2:=hb.grow hG2
 obtain⟨xu,xq,yu,yq,wu,wq,xr,rs,ru,xh,vh,h1,h2,h3,h4,h5,h6,h7,h8,h9⟩:=hb2.box
 have hlk:=ER (g:=H2.get) hok.ses h6 ⟨aO,aN,aT⟩
 have hM:=Q7 (dep+1) hG2.fr hb2 hok hul hql u aO aN
 have c4:=h4.s.cells
 have c5:=h5.s.cells
 have c8:=h8.cells
 unfold FG kP jw
 simp only
 generalize m8 b qs u aO aN=mn at *
 generalize decide ((nu (bH ⟨aO,aN⟩ b.used)).opens<(jO us0 qs gr0 aO aN).opens)=lo at *
 generalize gG (bH ⟨aO,aN,aT⟩ b.ses)=ss at *
 obtain⟨s1,s2,s3⟩:=ss
 cases s1 with
 | true=>simp[hbx,h1,hlk,hx.r,c4,c5,c8,h2.r,h3.r,uY.av,hG2]
 | false =>
  simp[hbx,h1,hlk,hx.r,c4,c5,c8,h2.r,h3.r,uY.av]
  refine lg (by kernel_rfl) hM fun H3 hG3=>?_
  have hG4:=hG2.trans hG3
  cases mn<;>simp[hG4]
theorem Wz(k:UInt8)(u:Int)(ba:UInt8)(aO:UInt8)(aN:UInt32)(aT:UInt8)(aV:Int)(aX:UInt8)(aW:UInt32)(aY:UInt8)(aZ:Int)(an:Int)(ay:UInt8)(ax:UInt32)(aw:UInt8)(au:Int)(aA:UInt8)(az:UInt32)(c g1:Int)(v:UInt8)(w:UInt32)(o:Bool){x:AV}{al:List Int}(hx:Sl 1 (rows al) x)(hal:al.length<1000000) :
 ∃H',bO env dep (.fn 149) [.ptr rb 0 0,.agg [a8 k,aI u,a8 ba,a8 aO,aF aN,a8 aT,aI aV,a8 aX,aF aW,a8 aY,aI aZ,aI an,a8 ay,aF ax,a8 aw,aI au,a8 aA,aF az,x,aI c,aI g1,a8 v,aF w,aB o]] H=some (aB (Bx us0 qs gr0 b ⟨k,u,(⟨ba,⟨aO,aN,aT⟩,aV,⟨⟨⟨aX,aW,aY⟩,aZ⟩,an⟩,⟨⟨ay,ax,aw⟩,au⟩,⟨aA,az⟩,al⟩:bz),c,g1,v,w,o⟩),H')∧bQ H H':=by
 refine eO (fn:=Tryz.f149) (c:=tM) (by kernel_rfl) (by kernel_rfl) (by kernel_rfl) (by kernel_rfl) (by kernel_rfl) ?_
 refine Aw _ _ _ _ _ fun g=>?_
 have hgr : ∀b1 b2:bP,bQ H ((⟨dep+1,5,H.gen (dep+1) 5,0⟩,some b2) :: (⟨dep+1,3,H.gen (dep+1) 3,0⟩,some b1) :: H):=fun b1 b2=>⟨by simp(maxDischargeDepth:=12) [ad.ao,aD,aq,Fr.nil,aJ,ah,ai,ae,af,aC,ar,ab, *],fun q c hq=>by
  have lq:(H.get q).isSome=true:=by rw[hq];rfl
  simp[ah hF lq,hq]⟩
 obtain⟨xu,xq,yu,yq,wu,wq,xr,rs,ru,xh,vh,h1,h2,h3,h4,h5,h6,h7,h8,h9⟩:=hb.box
 have l1:(H.get rb).isSome=true:=by rw[h1];rfl
 have l6:(H.get rs).isSome=true:=by rw[h6];rfl
 have c4:=h4.s.cells
 have c5:=h5.s.cells
 have c8:=h8.cells
 have hlk:=fun(H':ad)(h:H'.get rs=some (bE (cI xA b.ses)))=>ER (g:=H'.get) hok.ses h ⟨aO,aN,aT⟩
 unfold Bx kP jw
 simp only
 generalize hss:gG (bH ⟨aO,aN,aT⟩ b.ses)=ss at *
 obtain⟨s1,s2,s3⟩:=ss
 simp[ah,ai,ae,af,ab, *,ui,hx.r,h1,h6,hlk,uY.av]
 refine lg (by kernel_rfl) (Nu (dep+1) (hgr _ _).fr (hb.grow (hgr _ _)) hok hul hql _ _) fun H4 hG=>?_
 have hG2:=(hgr _ _).trans hG
 have b3:=hG.old ⟨dep+1,3,H.gen (dep+1) 3,0⟩ _ (by simp;rfl)
 have b5:=hG.old ⟨dep+1,5,H.gen (dep+1) 5,0⟩ _ (by simp;rfl)
 have hb4:=hb.grow hG2
 have hM:=HK (by kernel_rfl) (Q7 (dep+1) hG.fr hb4 hok hul hql s2 aO aN) rfl
 have hV:=HK (by kernel_rfl) (Et (dep+1) hG.fr hb4 hok hul hql ba aO aN aT aV aX aW aY aZ an ay ax aw au aA az hx hal) rfl
 generalize m8 b qs s2 aO aN=mn at *
 generalize decide ((nu (bH ⟨aO,aN⟩ b.used)).opens<(jO us0 qs gr0 aO aN).opens)=lo at *
 generalize decide ((nu (bH ⟨aO,aN⟩ b.used)).ops<(jO us0 qs gr0 aO aN).ops)=lp at *
 generalize fc us0 qs gr0 b (⟨ba,⟨aO,aN,aT⟩,aV,⟨⟨⟨aX,aW,aY⟩,aZ⟩,an⟩,⟨⟨ay,ax,aw⟩,au⟩,⟨aA,az⟩,al⟩:bz)=ve at *
 have hH4:=hG.fr
 clear hb hb4 h4 h5 h8 hok hlk
 cases s1 with
 | false=>simp[b3,b5,hx.r,lD,hG2]
 | true =>
 cases mn with
 | false=>simp[b3,b5,hx.r,lD,hM,hG2]
 | true =>
 by_cases he:aV=IntKind.i64.wrap (s3+1)
 ·subst he
  cases lp with
  | false=>simp[b3,b5,hx.r,lD,hM,hG2]
  | true=>simp[b3,b5,hx.r,lD,hM,hV,hG2]
 ·simp[b3,b5,hx.r,lD,hM,he,hG2]
theorem Wx(k:UInt8)(u:Int)(ba:UInt8)(aO:UInt8)(aN:UInt32)(aT:UInt8)(aV:Int)(aX:UInt8)(aW:UInt32)(aY:UInt8)(aZ:Int)(an:Int)(ay:UInt8)(ax:UInt32)(aw:UInt8)(au:Int)(aA:UInt8)(az:UInt32)(c g1:Int)(v:UInt8)(w:UInt32)(o:Bool){x:AV}{al:List Int}(hx:Sl 1 (rows al) x) :
 ∃H',bO env dep (.fn 151) [.ptr rb 0 0,.agg [a8 k,aI u,a8 ba,a8 aO,aF aN,a8 aT,aI aV,a8 aX,aF aW,a8 aY,aI aZ,aI an,a8 ay,aF ax,a8 aw,aI au,a8 aA,aF az,x,aI c,aI g1,a8 v,aF w,aB o]] H=some (aB (FF qs b ⟨k,u,(⟨ba,⟨aO,aN,aT⟩,aV,⟨⟨⟨aX,aW,aY⟩,aZ⟩,an⟩,⟨⟨ay,ax,aw⟩,au⟩,⟨aA,az⟩,al⟩:bz),c,g1,v,w,o⟩),H')∧bQ H H':=by
 refine eO (fn:=Tryz.f151) (c:=tL) (by kernel_rfl) (by kernel_rfl) (by kernel_rfl) (by kernel_rfl) (by kernel_rfl) ?_
 refine Av _ _ _ _ _ fun g=>?_
 obtain⟨xu,xq,yu,yq,wu,wq,xr,rs,ru,xh,vh,h1,h2,h3,h4,h5,h6,h7,h8,h9⟩:=hb.box
 have l1:(H.get rb).isSome=true:=by rw[h1];rfl
 have c4:=fun b1=>(h4.s.cons hF (dep+1) 3 (some b1)).r
 have c5:=fun b1=>(h5.s.cons hF (dep+1) 3 (some b1)).r
 have d4:=h4.s.cells
 have d5:=h5.s.cells
 have d8:=h8.cells
 have hfin : ∀b1 b2:bP,bQ H ((⟨dep+1,5,H.gen (dep+1) 5,0⟩,some b2) :: (⟨dep+1,3,H.gen (dep+1) 3,0⟩,some b1) :: H):=fun b1 b2=>⟨by simp(maxDischargeDepth:=12) [ad.ao,aD,aq,Fr.nil,aJ,ah,ai,ae,af,aC,ar,ab, *],fun q c hq=>by
  have lq:(H.get q).isSome=true:=by rw[hq];rfl
  simp[ah hF lq,hq]⟩
 unfold FF
 simp only
 have hfew:=hok.few
 by_cases he:yB b.us qs b.gr g1 v w o=0
 ·obtain⟨yy,hyy,hA⟩:=JO (gr:=b.gr) h4.s.sl h5.s.sl (by omega) (by omega) g1 v w o he
  have z4:=(ik.grow h4 (bQ.cons hF (dep+1) 3 ⟨24,[.agg [a8 k,aI u,a8 ba,a8 aO,aF aN,a8 aT,aI aV,a8 aX,aF aW,a8 aY,aI aZ,aI an,a8 ay,aF ax,a8 aw,aI au,a8 aA,aF az,x,aI c,aI g1,a8 v,aF w,aB o]],false,false⟩)).refs 6
  have z5:=(ik.grow h5 (bQ.cons hF (dep+1) 3 ⟨24,[.agg [a8 k,aI u,a8 ba,a8 aO,aF aN,a8 aT,aI aV,a8 aX,aF aW,a8 aY,aI aZ,aI an,a8 ay,aF ax,a8 aw,aI au,a8 aA,aF az,x,aI c,aI g1,a8 v,aF w,aB o]],false,false⟩)).refs 6
  have hyr:=hyy.r
  clear hb h4 h5 h8 hok
  simp[ah,ai,ae,af,ab, *,pA,hx.r,h2.r,h3.r,zM]
  done
 ·have hA:=Oi (gr:=b.gr) h4.s.sl h5.s.sl (by omega) (by omega) g1 v w o he
  clear hb h4 h5 h8 hok
  simp[ah,ai,ae,af,ab, *,pA,hx.r,h2.r,h3.r]
end
end Go.Proofs.YtmkmimgokagimaaGreat
