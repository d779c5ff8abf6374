/-
  The document's functions of policy: what they answer. No statement of a seat is proved here.
-/
import Derived.Test.YtdbiffjdomokfaaGreatMLeTwin
import Derived.Test.YtdbiffjdomokfaaGreatLeDoc7
import Derived.Test.YtdbiffjdomokfaaGreatLeApp
import Derived.Test.YtdbiffjdomokfaaGreatAuVc9
set_option linter.unusedVariables false
set_option linter.unusedSimpArgs false
set_option linter.unusedSectionVars false
set_option linter.unnecessarySimpa false
set_option maxRecDepth 100000
namespace Go.Proofs.YtdbiffjdomokfaaGreat
open Go.Ab
attribute [local simp] bD bq cZ ld
def pj(us:List Clear)(qs:List bz)(gr:Int)(a:UInt8)(b:UInt32):bz:=if wb us qs gr a=0 then JB qs a b else ⟨0,0,0,0,0⟩
section
variable{xu xq:AV}{us:List Clear}{qs:List bz}{gr:Int}(hu:Sl 3 (eZ us) xu)(hq:Sl 5 (ff qs) xq)(hql:qs.length<4611686018427387904)(hul:us.length<4611686018427387904)
include hu hq hql hul
@[simp] theorem Jw(a:UInt8)(b:UInt32):bj env 92 [.agg [xu,xq,aI gr],.agg [a8 a,aF b]]=some (.tup [.agg (pj us qs gr a b).enc,aI (wb us qs gr a)]):=by
 refine aL (fn:=Tryz.f92) (c:=tV) rfl (by kernel_rfl) (by kernel_rfl) (by kernel_rfl) (by kernel_rfl) ?_;refine Au _ _ _ _ fun g=>?_
 simp[ah,ai,ae,af,ad, *,uc,hu.r,hq.r,F3 hu hq hql hul,kz]
 unfold pj JB
 refine k5 (fun h=>?_) (fun h=>?_)
 ·have h:wb us qs gr a≠0:=by simpa using h
  simp[h,bz.enc]
 ·have h:wb us qs gr a=0:=by simpa using h
  cases hf:qs.find? (yw a b) with
  | none=>simp[hu.r,hq.r,Mi hq hql,hf,bz.enc,h,kz]
  | some q=>simp[hu.r,hq.r,Mi hq hql,hf,bz.enc,h,kz]
end
end Go.Proofs.YtdbiffjdomokfaaGreat
namespace Go.Proofs.YtdbiffjdomokfaaGreat
open Go.Ab
attribute [local simp] bD bq bo bF bE cZ ld bQ bx bA dx dw cg bT aY ct List.take_of_length_le
structure AZ where
 o:Bool
 u:Int
 s:Int
structure zU where
 opens:Int
 ops:Int
 cells:Int
def AZ.av(s:AZ):AV := .agg [aB s.o,aI s.u,aI s.s]
def zU.av(u:zU):AV := .agg [a8 0,aF 0,aI u.opens,aI u.ops,aI u.cells]
def C3:Option AV→AZ
 | some (.agg [.v (.bool o),.v (.int _ u),.v (.int _ s)])=>⟨o,u,s⟩
 | _=>⟨false,0,0⟩
def sS:Option AV→zU
 | some (.agg [_,_,.v (.int _ x),.v (.int _ y),.v (.int _ z)])=>⟨x,y,z⟩
 | _=>⟨0,0,0⟩
@[simp] theorem Pj(s:AZ):C3 (some s.av)=s:=by cases s;rfl
@[simp] theorem OZ(u:zU):sS (some u.av)=u:=by cases u;rfl
def Me(l:List (AO × AV)):Prop :=∀p∈l,∃s:AZ,p.2=s.av
def LV(l:List (mL × AV)):Prop :=∀p∈l,∃u:zU,p.2=u.av
theorem E2{K:Type}[DecidableEq K]{P:AV→Prop} : ∀ {l:List (K × AV)} (h : ∀p∈l,P p.2) (k:K),eW k l=none ∨∃x,eW k l=some x∧P x
 | [],_,_ => .inl rfl
 | p :: l,h,k=>by
  unfold eW
  split
  ·exact .inr ⟨p.2,rfl,h p List.mem_cons_self⟩
  ·exact E2 (fun q hq=>h q (List.mem_cons_of_mem _ hq)) k
theorem xJ{K:Type}[DecidableEq K]{P:AV→Prop}{k:K}{x:AV}(hx:P x) : ∀ {l:List (K × AV)} (h : ∀p∈l,P p.2),∀p∈mi k x l,P p.2
 | [],_=>by intro p hp;simp[mi]at hp;rw[hp];exact hx
 | q :: l,h=>by
  intro p hp
  unfold mi at hp
  split at hp
  ·rcases List.mem_cons.1 hp with rfl | hp
   ·exact hx
   ·exact h p (List.mem_cons_of_mem _ hp)
  ·rcases List.mem_cons.1 hp with rfl | hp
   ·exact h _ List.mem_cons_self
   ·exact xJ hx (fun p hp=>h p (List.mem_cons_of_mem _ hp)) p hp
theorem Md{l:List (AO × AV)}(h:Me l)(k:AO):(eW k l).getD (.agg [aB false,aI 0,aI 0])=(C3 (eW k l)).av:=by
 rcases E2 (P:=fun x =>∃s:AZ,x=s.av) h k with e | ⟨x,e,s,rfl⟩
 ·rw[e];rfl
 ·rw[e,Pj];rfl
theorem LU{l:List (mL × AV)}(h:LV l)(k:mL):(eW k l).getD (.agg [a8 0,aF 0,aI 0,aI 0,aI 0])=(sS (eW k l)).av:=by
 rcases E2 (P:=fun x =>∃u:zU,x=u.av) h k with e | ⟨x,e,u,rfl⟩
 ·rw[e];rfl
 ·rw[e,OZ];rfl
def ke(z:Nat)(es:List AV)(H:ab)(x y:AV):Prop:=(x=y∧Sl z es y) ∨∃r c,x = .cH r 0 es.length c∧H.get r=some ⟨z,es,true,true⟩∧y = .cw z es c∧es.length≤c.getD es.length
theorem ke.s{z:Nat}{es:List AV}{H:ab}{x y:AV}(h:ke z es H x y):iu z es H x y:=by
 rcases h with h | ⟨r,c,h1,h2,h3,h4⟩
 ·exact .inl h
 ·exact .inr ⟨r,c,true,h1,h2,h3,h4⟩
theorem ke.refs{z:Nat}{es:List AV}{H:ab}{x y:AV}(h:ke z es H x y)(n:Nat):ib H.get (aG H.get (n+1) x)=true:=by
 rcases h with ⟨rfl,h⟩ | ⟨r,c,rfl,hr,rfl,hc⟩
 ·rw[h.refs];rfl
 ·simp[hr]
theorem ke.of{z:Nat}{es:List AV}{x:AV}(h:Sl z es x)(H:ab):ke z es H x x := .inl ⟨rfl,h⟩
structure iw where
 us:List Clear
 gr:Int
 ses:List (AO × AV)
 used:List (mL × AV)
 iD:List (bR × AV)
structure tI (b:iw):Prop where
 ses:Me b.ses
 used:LV b.used
 iD : ∀p∈b.iD,ID p∧p.1.l.length<1000000
 many:b.iD.length<10000
 few:b.us.length<1000000
structure zW (H:ab) (rb:Ref) (us0:List Clear) (qs:List bz) (gr0:Int) (b:iw):Prop where
 box : ∃xu xq yu yq wu wq xr rs ru xh vh,H.get rb=some ⟨10,[.agg [xu,xq,aI gr0,yu,yq,aI b.gr,xr,.mp rs,.mp ru,xh]],false,false⟩∧Sl 3 (eZ us0) xu∧Sl 5 (ff qs) xq∧ke 3 (eZ b.us) H yu wu∧ke 5 (ff qs) H yq wq ∧
  H.get rs=some (bt (cD uP b.ses))∧H.get ru=some (bt (cD tf b.used))∧iu 17 (eU b.iD) H xh vh∧xr.cells=[xr]∧xr.one=true
theorem ke.grow{z:Nat}{es:List AV}{H H':ab}{x y:AV}(h:ke z es H x y)(g:cz H H'):ke z es H' x y:=by
 rcases h with h | ⟨r,c,rfl,hr,rfl,hc⟩
 ·exact .inl h
 ·exact .inr ⟨r,c,rfl,g.old _ _ hr,rfl,hc⟩
theorem iu.grow{z:Nat}{es:List AV}{H H':ab}{x y:AV}(h:iu z es H x y)(g:cz H H'):iu z es H' x y:=by
 rcases h with h | ⟨r,c,fz,rfl,hr,rfl,hc⟩
 ·exact .inl h
 ·exact .inr ⟨r,c,fz,rfl,g.old _ _ hr,rfl,hc⟩
theorem zW.grow{H H':ab}{rb:Ref}{us0:List Clear}{qs:List bz}{gr0:Int}{b:iw}(h:zW H rb us0 qs gr0 b)(g:cz H H'):zW H' rb us0 qs gr0 b:=by
 obtain⟨xu,xq,yu,yq,wu,wq,xr,rs,ru,xh,vh,h1,h2,h3,h4,h5,h6,h7,h8,h9⟩:=h.box
 exact⟨xu,xq,yu,yq,wu,wq,xr,rs,ru,xh,vh,g.old _ _ h1,h2,h3,ke.grow h4 g,ke.grow h5 g,g.old _ _ h6,g.old _ _ h7,iu.grow h8 g,h9⟩
theorem EI{g:de}{rs:Ref}{l:List (AO × AV)}(hb:Me l)(hr:g rs=some (bt (cD uP l)))(h:AO):cY env.P g 88 (some (.mp rs)) (some (.agg [a8 h.lv,aF h.cats,a8 h.num])) false=some ((C3 (eW h l)).av,[]):=by
 have e:=uF E6 Ca (t:=88) (et:=119) (by kernel_rfl) (z := .agg [aB false,aI 0,aI 0]) (by kernel_rfl) hr h false
 rw[Md hb]at e
 exact e
theorem Bi{g:de}{ru:Ref}{l:List (mL × AV)}(hb:LV l)(hr:g ru=some (bt (cD tf l)))(v:mL):cY env.P g 89 (some (.mp ru)) (some (.agg [a8 v.lv,aF v.cats])) false=some ((sS (eW v l)).av,[]):=by
 have e:=uF E5 B4 (t:=89) (et:=76) (by kernel_rfl) (z := .agg [a8 0,aF 0,aI 0,aI 0,aI 0]) (by kernel_rfl) hr v false
 rw[LU hb]at e
 exact e
section
variable(dep:Nat){H:ab}(hF:Fr H){rb:Ref}{us0:List Clear}{qs:List bz}{gr0:Int}{b:iw}(hb:zW H rb us0 qs gr0 b)(hok:tI b)(hul:us0.length<1000000)(hql:qs.length<1000000)
include hF hb hok hul hql
theorem JQ(v1:UInt8)(v2:UInt32) : ∃H',bU env dep (.fn 72) [.ptr rb 0 0,.agg [a8 v1,aF v2]] H =
 some (.tup [aB (decide ((sS (eW ⟨v1,v2⟩ b.used)).opens<(pj us0 qs gr0 v1 v2).opens)),aB (decide ((sS (eW ⟨v1,v2⟩ b.used)).ops<(pj us0 qs gr0 v1 v2).ops))],H')∧cz H H':=by
 refine fw (fn:=Tryz.f72) (c:=iR) (by kernel_rfl) (by kernel_rfl) (by kernel_rfl) (by kernel_rfl) (by kernel_rfl) ?_
 refine m7 _ _ _ _ _ fun g=>?_
 obtain⟨xu,xq,yu,yq,wu,wq,xr,rs,ru,xh,vh,h1,h2,h3,h4,h5,h6,h7,h8,h9⟩:=hb.box
 have hQ:=Jw (gr:=gr0) h2 h3 (by omega) (by omega) v1 v2
 have l1:(H.get rb).isSome=true:=by rw[h1];rfl
 have l7:(H.get ru).isSome=true:=by rw[h7];rfl
 have hlk:=fun(H':ab)(h:H'.get ru=some (bt (cD tf b.used)))=>Bi (g:=H'.get) hok.used h ⟨v1,v2⟩
 have c4:=h4.s.cells
 have c5:=h5.s.cells
 have c8:=h8.cells
 generalize pj us0 qs gr0 v1 v2=q at *
 generalize sS (eW ⟨v1,v2⟩ b.used)=u at *
 obtain⟨q1,q2,q3,q4,q5⟩:=q
 obtain⟨u1,u2,u3⟩:=u
 have hfin : ∀b1 b2 b3:bM,cz H ((⟨dep+1,8,H.gen (dep+1) 8,0⟩,some b3) :: (⟨dep+1,6,H.gen (dep+1) 6,0⟩,some b2) :: (⟨dep+1,3,H.gen (dep+1) 3,0⟩,some b1) :: H):=fun b1 b2 b3=>⟨by simp(maxDischargeDepth:=12) [ab.get_put,aq,an,Fr.nil,aD,ah,ai,ae,af,ar,ao,ad, *],fun q c hq=>by
  have lq:(H.get q).isSome=true:=by rw[hq];rfl
  simp[ah hF lq,hq]⟩
 clear hb h4 h5 h8 hok
 simp[ah,ai,ae,af,ad, *,iW,h2.r,h3.r,bz.enc,zU.av]
def zt(b:iw)(qs:List bz)(user:Int)(v1:UInt8)(v2:UInt32):Bool:=decide (wb b.us qs b.gr v1=0)&&BJ b.us user v1 v2
theorem Nn(user:Int)(v1:UInt8)(v2:UInt32) : ∃H',bU env dep (.fn 73) [.ptr rb 0 0,aI user,.agg [a8 v1,aF v2]] H=some (aB (zt b qs user v1 v2),H')∧cz H H':=by
 refine fw (fn:=Tryz.f73) (c:=jl) (by kernel_rfl) (by kernel_rfl) (by kernel_rfl) (by kernel_rfl) (by kernel_rfl) ?_
 refine nw _ _ _ _ _ _ fun g=>?_
 obtain⟨xu,xq,yu,yq,wu,wq,xr,rs,ru,xh,vh,h1,h2,h3,h4,h5,h6,h7,h8,h9⟩:=hb.box
 have hM:=R6 (gr:=b.gr) h4.s.sl h5.s.sl (by omega) (by have:=hok.few;omega) user v1 v2
 have l1:(H.get rb).isSome=true:=by rw[h1];rfl
 have c4:=fun b1=>(h4.s.cons hF (dep+1) 5 (some b1)).r
 have c5:=fun b1=>(h5.s.cons hF (dep+1) 5 (some b1)).r
 have d4:=h4.s.cells
 have d5:=h5.s.cells
 have c8:=h8.cells
 have hg0:=cz.refl hF
 have hfin : ∀b1:bM,cz H ((⟨dep+1,5,H.gen (dep+1) 5,0⟩,some b1) :: H):=fun b1=>cz.cons hF _ _ _
 unfold zt
 clear hb h4 h5 h8 hok
 generalize BJ b.us user v1 v2=ob at *
 by_cases hp:wb b.us qs b.gr v1=0
 ·rw[hp]at hM
  cases ob<;>simp[ah,ai,ae,af,ad, *,fv,h2.r,h3.r,hp]
 ·cases ob<;>simp[ah,ai,ae,af,ad, *,fv,h2.r,h3.r,hp]
def xm(us0:List Clear)(qs:List bz)(gr0:Int)(b:iw)(o:bR):Int :=
 if uW b.iD o≠0 then uW b.iD o else if o.kind=1∧(pj us0 qs gr0 o.h.lv o.h.cats).cells<IntKind.i64.wrap ((sS (eW ⟨o.h.lv,o.h.cats⟩ b.used)).cells+o.s.many) then 9 else 0
theorem HR(bh:UInt8)(aQ:UInt8)(aP:UInt32)(aT:UInt8)(aX:Int)(bc:UInt8)(ba:UInt32)(bf:UInt8)(bg:Int)(au:Int)(az:UInt8)(ay:UInt32)(ax:UInt8)(aw:Int)(aC:UInt8)(aA:UInt32){x:AV}{al:List Int}(hx:Sl 1 (rows al) x)(hal:al.length<1000000) : ∃H',bU env dep (.fn 76) [.ptr rb 0 0,.agg [a8 bh,a8 aQ,aF aP,a8 aT,aI aX,a8 bc,aF ba,a8 bf,aI bg,aI au,a8 az,aF ay,a8 ax,aI aw,a8 aC,aF aA,x]] H=some (aI (xm us0 qs gr0 b (⟨bh,⟨aQ,aP,aT⟩,aX,⟨⟨⟨bc,ba,bf⟩,bg⟩,au⟩,⟨⟨az,ay,ax⟩,aw⟩,⟨aC,aA⟩,al⟩:bR)),H')∧cz H H':=by
 refine fw (fn:=Tryz.f76) (c:=gY) (by kernel_rfl) (by kernel_rfl) (by kernel_rfl) (by kernel_rfl) (by kernel_rfl) ?_
 refine l4 _ _ _ _ _ fun g=>?_
 obtain⟨xu,xq,yu,yq,wu,wq,xr,rs,ru,xh,vh,h1,h2,h3,h4,h5,h6,h7,h8,h9⟩:=hb.box
 have hQ:=Jw (gr:=gr0) h2 h3 (by omega) (by omega) aQ aP
 have hD:=KB h8.sl hok.iD hok.many bh aQ aP aT aX bc ba bf bg au az ay ax aw aC aA hx hal
 have l1:(H.get rb).isSome=true:=by rw[h1];rfl
 have l7:(H.get ru).isSome=true:=by rw[h7];rfl
 have hlk:=fun(H':ab)(h:H'.get ru=some (bt (cD tf b.used)))=>Bi (g:=H'.get) hok.used h ⟨aQ,aP⟩
 have c4:=h4.s.cells
 have c5:=h5.s.cells
 have c8:=fun b1=>(h8.cons hF (dep+1) 3 (some b1)).r
 have d8:=h8.cells
 have hg0:=cz.refl hF
 have hfin1 : ∀b1:bM,cz H ((⟨dep+1,3,H.gen (dep+1) 3,0⟩,some b1) :: H):=fun b1=>cz.cons hF _ _ _
 have hfin : ∀b1 b2:bM,cz H ((⟨dep+1,6,H.gen (dep+1) 6,0⟩,some b2) :: (⟨dep+1,3,H.gen (dep+1) 3,0⟩,some b1) :: H):=fun b1 b2=>⟨by simp(maxDischargeDepth:=12) [ab.get_put,aq,an,Fr.nil,aD,ah,ai,ae,af,ar,ao,ad, *],fun q c hq=>by
  have lq:(H.get q).isSome=true:=by rw[hq];rfl
  simp[ah hF lq,hq]⟩
 unfold xm
 simp only
 generalize pj us0 qs gr0 aQ aP=q at *
 generalize sS (eW ⟨aQ,aP⟩ b.used)=u at *
 generalize uW b.iD (⟨bh,⟨aQ,aP,aT⟩,aX,⟨⟨⟨bc,ba,bf⟩,bg⟩,au⟩,⟨⟨az,ay,ax⟩,aw⟩,⟨aC,aA⟩,al⟩:bR)=e at *
 obtain⟨q1,q2,q3,q4,q5⟩:=q
 obtain⟨u1,u2,u3⟩:=u
 clear hb h4 h5 h8 hok
 by_cases he:e=0
 ·by_cases hk:bh=1
  ·subst hk
   by_cases hc:q5<IntKind.i64.wrap (u3+au)
   ·simp[ah,ai,ae,af,ad, *,cF,h2.r,h3.r,hx.r,bz.enc,zU.av]
   ·simp[ah,ai,ae,af,ad, *,cF,h2.r,h3.r,hx.r,bz.enc,zU.av]
  ·simp[ah,ai,ae,af,ad, *,cF,h2.r,h3.r,hx.r,bz.enc,zU.av]
 ·simp[ah,ai,ae,af,ad, *,cF,h2.r,h3.r,hx.r,bz.enc,zU.av]
end
end Go.Proofs.YtdbiffjdomokfaaGreat
