/-
  The document's functions of policy: what they answer. No statement of a seat is proved here.
-/
import Derived.Test.YtdbiffjdomokfaaGreatMLeTwin
import Derived.Test.YtdbiffjdomokfaaGreatLeDoc7
import Derived.Test.YtdbiffjdomokfaaGreatLeApp
import Derived.Test.YtdbiffjdomokfaaGreatAuVc9
set_option linter.unusedVariables false
set_option linter.unusedSimpArgs false
set_option linter.unusedSectionVars false
set_option linter.unnecessarySimpa false
set_option maxRecDepth 100000
namespace Go.Proofs.YtdbiffjdomokfaaGreat
open Go.Ab
attribute [local simp] bK bw dc kS
def oN(us:List Clear)(qs:List bI)(gr:Int)(a:UInt8)(b:UInt32):bI:=if u7 us qs gr a=0 then Ij qs a b else ⟨0,0,0,0,0⟩
section
variable{xu xq:AV}{us:List Clear}{qs:List bI}{gr:Int}(hu:Sl 3 (fD us) xu)(hq:Sl 5 (fQ qs) xq)(hql:qs.length<4611686018427387904)(hul:us.length<4611686018427387904)
include hu hq hql hul
@[simp] theorem Ih(a:UInt8)(b:UInt32):bj env 92 [.agg [xu,xq,aI gr],.agg [a8 a,aF b]]=some (.tup [.agg (oN us qs gr a b).enc,aI (u7 us qs gr a)]):=by
 refine aJ (fn:=Tryz.f92) (c:=sT) rfl (by kernel_rfl) (by kernel_rfl) (by kernel_rfl) (by kernel_rfl) ?_;refine zo _ _ _ _ fun g=>?_
 simp[ah,ai,ae,af,ad, *,sY,hu.r,hq.r,E4 hu hq hql hul,jP]
 unfold oN Ij
 refine kP (fun h=>?_) (fun h=>?_)
 ·have h:u7 us qs gr a≠0:=by simpa using h
  simp[h,bI.enc]
 ·have h:u7 us qs gr a=0:=by simpa using h
  cases hf:qs.find? (xi a b) with
  | none=>simp[hu.r,hq.r,KM hq hql,hf,bI.enc,h,jP]
  | some q=>simp[hu.r,hq.r,KM hq hql,hf,bI.enc,h,jP]
end
end Go.Proofs.YtdbiffjdomokfaaGreat
namespace Go.Proofs.YtdbiffjdomokfaaGreat
open Go.Ab
attribute [local simp] bK bw bo bM bL dc kS bU bx bH dJ dI cp bX bh cC List.take_of_length_le
structure zT where
 o:Bool
 u:Int
 s:Int
structure yS where
 opens:Int
 ops:Int
 cells:Int
def zT.av(s:zT):AV := .agg [aB s.o,aI s.u,aI s.s]
def yS.av(u:yS):AV := .agg [a8 0,aF 0,aI u.opens,aI u.ops,aI u.cells]
def B2:Option AV→zT
 | some (.agg [.v (.bool o),.v (.int _ u),.v (.int _ s)])=>⟨o,u,s⟩
 | _=>⟨false,0,0⟩
def rX:Option AV→yS
 | some (.agg [_,_,.v (.int _ x),.v (.int _ y),.v (.int _ z)])=>⟨x,y,z⟩
 | _=>⟨0,0,0⟩
@[simp] theorem Nv(s:zT):B2 (some s.av)=s:=by cases s;rfl
@[simp] theorem Nh(u:yS):rX (some u.av)=u:=by cases u;rfl
def KI(l:List (zU × AV)):Prop :=∀p∈l,∃s:zT,p.2=s.av
def KA(l:List (nw × AV)):Prop :=∀p∈l,∃u:yS,p.2=u.av
theorem D2{K:Type}[DecidableEq K]{P:AV→Prop} : ∀ {l:List (K × AV)} (h : ∀p∈l,P p.2) (k:K),eL k l=none ∨∃x,eL k l=some x∧P x
 | [],_,_ => .inl rfl
 | p :: l,h,k=>by
  unfold eL
  split
  ·exact .inr ⟨p.2,rfl,h p List.mem_cons_self⟩
  ·exact D2 (fun q hq=>h q (List.mem_cons_of_mem _ hq)) k
theorem wF{K:Type}[DecidableEq K]{P:AV→Prop}{k:K}{x:AV}(hx:P x) : ∀ {l:List (K × AV)} (h : ∀p∈l,P p.2),∀p∈lF k x l,P p.2
 | [],_=>by intro p hp;simp[lF]at hp;rw[hp];exact hx
 | q :: l,h=>by
  intro p hp
  unfold lF at hp
  split at hp
  ·rcases List.mem_cons.1 hp with rfl | hp
   ·exact hx
   ·exact h p (List.mem_cons_of_mem _ hp)
  ·rcases List.mem_cons.1 hp with rfl | hp
   ·exact h _ List.mem_cons_self
   ·exact wF hx (fun p hp=>h p (List.mem_cons_of_mem _ hp)) p hp
theorem KH{l:List (zU × AV)}(h:KI l)(k:zU):(eL k l).getD (.agg [aB false,aI 0,aI 0])=(B2 (eL k l)).av:=by
 rcases D2 (P:=fun x =>∃s:zT,x=s.av) h k with e | ⟨x,e,s,rfl⟩
 ·rw[e];rfl
 ·rw[e,Nv];rfl
theorem Kz{l:List (nw × AV)}(h:KA l)(k:nw):(eL k l).getD (.agg [a8 0,aF 0,aI 0,aI 0,aI 0])=(rX (eL k l)).av:=by
 rcases D2 (P:=fun x =>∃u:yS,x=u.av) h k with e | ⟨x,e,u,rfl⟩
 ·rw[e];rfl
 ·rw[e,Nh];rfl
def jJ(z:Nat)(es:List AV)(H:ab)(x y:AV):Prop:=(x=y∧Sl z es y) ∨∃r c,x = .cG r 0 es.length c∧H.get r=some ⟨z,es,true,true⟩∧y = .cm z es c∧es.length≤c.getD es.length
theorem jJ.s{z:Nat}{es:List AV}{H:ab}{x y:AV}(h:jJ z es H x y):gY z es H x y:=by
 rcases h with h | ⟨r,c,h1,h2,h3,h4⟩
 ·exact .inl h
 ·exact .inr ⟨r,c,true,h1,h2,h3,h4⟩
theorem jJ.refs{z:Nat}{es:List AV}{H:ab}{x y:AV}(h:jJ z es H x y)(n:Nat):gN H.get (aG H.get (n+1) x)=true:=by
 rcases h with ⟨rfl,h⟩ | ⟨r,c,rfl,hr,rfl,hc⟩
 ·rw[h.refs];rfl
 ·simp[hr]
theorem jJ.of{z:Nat}{es:List AV}{x:AV}(h:Sl z es x)(H:ab):jJ z es H x x := .inl ⟨rfl,h⟩
structure iu where
 us:List Clear
 gr:Int
 ses:List (zU × AV)
 used:List (nw × AV)
 ib:List (bQ × AV)
structure sH (b:iu):Prop where
 ses:KI b.ses
 used:KA b.used
 ib : ∀p∈b.ib,He p∧p.1.l.length<1000000
 many:b.ib.length<10000
 few:b.us.length<1000000
structure yU (H:ab) (rb:Ref) (us0:List Clear) (qs:List bI) (gr0:Int) (b:iu):Prop where
 box : ∃xu xq yu yq wu wq xr rs ru xh vh,H.get rb=some ⟨10,[.agg [xu,xq,aI gr0,yu,yq,aI b.gr,xr,.mp rs,.mp ru,xh]],false,false⟩∧Sl 3 (fD us0) xu∧Sl 5 (fQ qs) xq∧jJ 3 (fD b.us) H yu wu∧jJ 5 (fQ qs) H yq wq ∧
  H.get rs=some (bq (cz tJ b.ses))∧H.get ru=some (bq (cz sg b.used))∧gY 17 (eJ b.ib) H xh vh∧xr.cells=[xr]∧xr.one=true
theorem jJ.grow{z:Nat}{es:List AV}{H H':ab}{x y:AV}(h:jJ z es H x y)(g:cw H H'):jJ z es H' x y:=by
 rcases h with h | ⟨r,c,rfl,hr,rfl,hc⟩
 ·exact .inl h
 ·exact .inr ⟨r,c,rfl,g.old _ _ hr,rfl,hc⟩
theorem gY.grow{z:Nat}{es:List AV}{H H':ab}{x y:AV}(h:gY z es H x y)(g:cw H H'):gY z es H' x y:=by
 rcases h with h | ⟨r,c,fz,rfl,hr,rfl,hc⟩
 ·exact .inl h
 ·exact .inr ⟨r,c,fz,rfl,g.old _ _ hr,rfl,hc⟩
theorem yU.grow{H H':ab}{rb:Ref}{us0:List Clear}{qs:List bI}{gr0:Int}{b:iu}(h:yU H rb us0 qs gr0 b)(g:cw H H'):yU H' rb us0 qs gr0 b:=by
 obtain⟨xu,xq,yu,yq,wu,wq,xr,rs,ru,xh,vh,h1,h2,h3,h4,h5,h6,h7,h8,h9⟩:=h.box
 exact⟨xu,xq,yu,yq,wu,wq,xr,rs,ru,xh,vh,g.old _ _ h1,h2,h3,jJ.grow h4 g,jJ.grow h5 g,g.old _ _ h6,g.old _ _ h7,gY.grow h8 g,h9⟩
theorem DI{g:cV}{rs:Ref}{l:List (zU × AV)}(hb:KI l)(hr:g rs=some (bq (cz tJ l)))(h:zU):cQ env.P g 88 (some (.mp rs)) (some (.agg [a8 h.lv,aF h.cats,a8 h.num])) false=some ((B2 (eL h l)).av,[]):=by
 have e:=tA D6 Bb (t:=88) (et:=119) (by kernel_rfl) (z := .agg [aB false,aI 0,aI 0]) (by kernel_rfl) hr h false
 rw[KH hb]at e
 exact e
theorem Ai{g:cV}{ru:Ref}{l:List (nw × AV)}(hb:KA l)(hr:g ru=some (bq (cz sg l)))(v:nw):cQ env.P g 89 (some (.mp ru)) (some (.agg [a8 v.lv,aF v.cats])) false=some ((rX (eL v l)).av,[]):=by
 have e:=tA D5 A5 (t:=89) (et:=76) (by kernel_rfl) (z := .agg [a8 0,aF 0,aI 0,aI 0,aI 0]) (by kernel_rfl) hr v false
 rw[Kz hb]at e
 exact e
section
variable(dep:Nat){H:ab}(hF:Fr H){rb:Ref}{us0:List Clear}{qs:List bI}{gr0:Int}{b:iu}(hb:yU H rb us0 qs gr0 b)(hok:sH b)(hul:us0.length<1000000)(hql:qs.length<1000000)
include hF hb hok hul hql
theorem Iz(v1:UInt8)(v2:UInt32) : ∃H',bR env dep (.fn 72) [.ptr rb 0 0,.agg [a8 v1,aF v2]] H =
 some (.tup [aB (decide ((rX (eL ⟨v1,v2⟩ b.used)).opens<(oN us0 qs gr0 v1 v2).opens)),aB (decide ((rX (eL ⟨v1,v2⟩ b.used)).ops<(oN us0 qs gr0 v1 v2).ops))],H')∧cw H H':=by
 refine fc (fn:=Tryz.f72) (c:=iB) (by kernel_rfl) (by kernel_rfl) (by kernel_rfl) (by kernel_rfl) (by kernel_rfl) ?_
 refine mA _ _ _ _ _ fun g=>?_
 obtain⟨xu,xq,yu,yq,wu,wq,xr,rs,ru,xh,vh,h1,h2,h3,h4,h5,h6,h7,h8,h9⟩:=hb.box
 have hQ:=Ih (gr:=gr0) h2 h3 (by omega) (by omega) v1 v2
 have l1:(H.get rb).isSome=true:=by rw[h1];rfl
 have l7:(H.get ru).isSome=true:=by rw[h7];rfl
 have hlk:=fun(H':ab)(h:H'.get ru=some (bq (cz sg b.used)))=>Ai (g:=H'.get) hok.used h ⟨v1,v2⟩
 have c4:=h4.s.cells
 have c5:=h5.s.cells
 have c8:=h8.cells
 generalize oN us0 qs gr0 v1 v2=q at *
 generalize rX (eL ⟨v1,v2⟩ b.used)=u at *
 obtain⟨q1,q2,q3,q4,q5⟩:=q
 obtain⟨u1,u2,u3⟩:=u
 have hfin : ∀b1 b2 b3:bJ,cw H ((⟨dep+1,8,H.gen (dep+1) 8,0⟩,some b3) :: (⟨dep+1,6,H.gen (dep+1) 6,0⟩,some b2) :: (⟨dep+1,3,H.gen (dep+1) 3,0⟩,some b1) :: H):=fun b1 b2 b3=>⟨by simp(maxDischargeDepth:=12) [ab.get_put,aq,an,Fr.nil,aD,ah,ai,ae,af,ar,ao,ad, *],fun q c hq=>by
  have lq:(H.get q).isSome=true:=by rw[hq];rfl
  simp[ah hF lq,hq]⟩
 clear hb h4 h5 h8 hok
 simp[ah,ai,ae,af,ad, *,iG,h2.r,h3.r,bI.enc,yS.av]
def yr(b:iu)(qs:List bI)(user:Int)(v1:UInt8)(v2:UInt32):Bool:=decide (u7 b.us qs b.gr v1=0)&&AJ b.us user v1 v2
theorem LG(user:Int)(v1:UInt8)(v2:UInt32) : ∃H',bR env dep (.fn 73) [.ptr rb 0 0,aI user,.agg [a8 v1,aF v2]] H=some (aB (yr b qs user v1 v2),H')∧cw H H':=by
 refine fc (fn:=Tryz.f73) (c:=iW) (by kernel_rfl) (by kernel_rfl) (by kernel_rfl) (by kernel_rfl) (by kernel_rfl) ?_
 refine mO _ _ _ _ _ _ fun g=>?_
 obtain⟨xu,xq,yu,yq,wu,wq,xr,rs,ru,xh,vh,h1,h2,h3,h4,h5,h6,h7,h8,h9⟩:=hb.box
 have hM:=Qg (gr:=b.gr) h4.s.sl h5.s.sl (by omega) (by have:=hok.few;omega) user v1 v2
 have l1:(H.get rb).isSome=true:=by rw[h1];rfl
 have c4:=fun b1=>(h4.s.cons hF (dep+1) 5 (some b1)).r
 have c5:=fun b1=>(h5.s.cons hF (dep+1) 5 (some b1)).r
 have d4:=h4.s.cells
 have d5:=h5.s.cells
 have c8:=h8.cells
 have hg0:=cw.refl hF
 have hfin : ∀b1:bJ,cw H ((⟨dep+1,5,H.gen (dep+1) 5,0⟩,some b1) :: H):=fun b1=>cw.cons hF _ _ _
 unfold yr
 clear hb h4 h5 h8 hok
 generalize AJ b.us user v1 v2=ob at *
 by_cases hp:u7 b.us qs b.gr v1=0
 ·rw[hp]at hM
  cases ob<;>simp[ah,ai,ae,af,ad, *,fb,h2.r,h3.r,hp]
 ·cases ob<;>simp[ah,ai,ae,af,ad, *,fb,h2.r,h3.r,hp]
def we(us0:List Clear)(qs:List bI)(gr0:Int)(b:iu)(o:bQ):Int :=
 if tQ b.ib o≠0 then tQ b.ib o else if o.kind=1∧(oN us0 qs gr0 o.h.lv o.h.cats).cells<IntKind.i64.wrap ((rX (eL ⟨o.h.lv,o.h.cats⟩ b.used)).cells+o.s.many) then 9 else 0
theorem GG(bg:UInt8)(aP:UInt8)(aO:UInt32)(aT:UInt8)(aW:Int)(ba:UInt8)(aZ:UInt32)(bc:UInt8)(bf:Int)(au:Int)(az:UInt8)(ay:UInt32)(ax:UInt8)(aw:Int)(aC:UInt8)(aA:UInt32){x:AV}{al:List Int}(hx:Sl 1 (rows al) x)(hal:al.length<1000000) : ∃H',bR env dep (.fn 76) [.ptr rb 0 0,.agg [a8 bg,a8 aP,aF aO,a8 aT,aI aW,a8 ba,aF aZ,a8 bc,aI bf,aI au,a8 az,aF ay,a8 ax,aI aw,a8 aC,aF aA,x]] H=some (aI (we us0 qs gr0 b (⟨bg,⟨aP,aO,aT⟩,aW,⟨⟨⟨ba,aZ,bc⟩,bf⟩,au⟩,⟨⟨az,ay,ax⟩,aw⟩,⟨aC,aA⟩,al⟩:bQ)),H')∧cw H H':=by
 refine fc (fn:=Tryz.f76) (c:=gE) (by kernel_rfl) (by kernel_rfl) (by kernel_rfl) (by kernel_rfl) (by kernel_rfl) ?_
 refine lu _ _ _ _ _ fun g=>?_
 obtain⟨xu,xq,yu,yq,wu,wq,xr,rs,ru,xh,vh,h1,h2,h3,h4,h5,h6,h7,h8,h9⟩:=hb.box
 have hQ:=Ih (gr:=gr0) h2 h3 (by omega) (by omega) aP aO
 have hD:=Jk h8.sl hok.ib hok.many bg aP aO aT aW ba aZ bc bf au az ay ax aw aC aA hx hal
 have l1:(H.get rb).isSome=true:=by rw[h1];rfl
 have l7:(H.get ru).isSome=true:=by rw[h7];rfl
 have hlk:=fun(H':ab)(h:H'.get ru=some (bq (cz sg b.used)))=>Ai (g:=H'.get) hok.used h ⟨aP,aO⟩
 have c4:=h4.s.cells
 have c5:=h5.s.cells
 have c8:=fun b1=>(h8.cons hF (dep+1) 3 (some b1)).r
 have d8:=h8.cells
 have hg0:=cw.refl hF
 have hfin1 : ∀b1:bJ,cw H ((⟨dep+1,3,H.gen (dep+1) 3,0⟩,some b1) :: H):=fun b1=>cw.cons hF _ _ _
 have hfin : ∀b1 b2:bJ,cw H ((⟨dep+1,6,H.gen (dep+1) 6,0⟩,some b2) :: (⟨dep+1,3,H.gen (dep+1) 3,0⟩,some b1) :: H):=fun b1 b2=>⟨by simp(maxDischargeDepth:=12) [ab.get_put,aq,an,Fr.nil,aD,ah,ai,ae,af,ar,ao,ad, *],fun q c hq=>by
  have lq:(H.get q).isSome=true:=by rw[hq];rfl
  simp[ah hF lq,hq]⟩
 unfold we
 simp only
 generalize oN us0 qs gr0 aP aO=q at *
 generalize rX (eL ⟨aP,aO⟩ b.used)=u at *
 generalize tQ b.ib (⟨bg,⟨aP,aO,aT⟩,aW,⟨⟨⟨ba,aZ,bc⟩,bf⟩,au⟩,⟨⟨az,ay,ax⟩,aw⟩,⟨aC,aA⟩,al⟩:bQ)=e at *
 obtain⟨q1,q2,q3,q4,q5⟩:=q
 obtain⟨u1,u2,u3⟩:=u
 clear hb h4 h5 h8 hok
 by_cases he:e=0
 ·by_cases hk:bg=1
  ·subst hk
   by_cases hc:q5<IntKind.i64.wrap (u3+au)
   ·simp[ah,ai,ae,af,ad, *,cD,h2.r,h3.r,hx.r,bI.enc,yS.av]
   ·simp[ah,ai,ae,af,ad, *,cD,h2.r,h3.r,hx.r,bI.enc,yS.av]
  ·simp[ah,ai,ae,af,ad, *,cD,h2.r,h3.r,hx.r,bI.enc,yS.av]
 ·simp[ah,ai,ae,af,ad, *,cD,h2.r,h3.r,hx.r,bI.enc,yS.av]
end
end Go.Proofs.YtdbiffjdomokfaaGreat
