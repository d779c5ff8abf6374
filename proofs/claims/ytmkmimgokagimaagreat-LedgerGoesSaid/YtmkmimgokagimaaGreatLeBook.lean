/-
  What a log tells, under way: what is asked of it. No statement of a seat is proved here.
-/
import Derived.Test.YtmkmimgokagimaaGreatMLeQuota
import Derived.Test.YtmkmimgokagimaaGreatLeApp
import Derived.Test.YtmkmimgokagimaaGreatLeVc9
set_option linter.unusedVariables false
set_option linter.unusedSimpArgs false
set_option linter.unusedSectionVars false
set_option linter.unnecessarySimpa false
set_option maxRecDepth 100000
namespace Go.Proofs.YtmkmimgokagimaaGreat
open Go.Ab
attribute [local simp] bx aZ aL bw bu keep thr bD bh bq dC dB cP bF aE cC List.take_of_length_le
structure Ses where
 o:Bool
 u:Int
 s:Int
structure Use where
 opens:Int
 ops:Int
 cells:Int
def Ses.av(s:Ses):AV := .agg [aB s.o,aI s.u,aI s.s]
def Use.av(u:Use):AV := .agg [a8 0,a32 0,aI u.opens,aI u.ops,aI u.cells]
def sesD:Option AV→Ses
 | some (.agg [.v (.bool o),.v (.int _ u),.v (.int _ s)])=>⟨o,u,s⟩
 | _=>⟨false,0,0⟩
def useD:Option AV→Use
 | some (.agg [_,_,.v (.int _ x),.v (.int _ y),.v (.int _ z)])=>⟨x,y,z⟩
 | _=>⟨0,0,0⟩
@[simp] theorem E5(s:Ses):sesD (some s.av)=s:=by cases s;rfl
@[simp] theorem KB(u:Use):useD (some u.av)=u:=by cases u;rfl
def KT(l:List (Han × AV)):Prop :=∀p∈l,∃s:Ses,p.2=s.av
def KA(l:List (Lab × AV)):Prop :=∀p∈l,∃u:Use,p.2=u.av
theorem BY{K:Type}[DecidableEq K]{P:AV→Prop} : ∀ {l:List (K × AV)} (h : ∀p∈l,P p.2) (k:K),fj k l=none ∨∃x,fj k l=some x∧P x
 | [],_,_ => .inl rfl
 | p :: l,h,k=>by
  unfold fj
  split
  ·exact .inr ⟨p.2,rfl,h p List.mem_cons_self⟩
  ·exact BY (fun q hq=>h q (List.mem_cons_of_mem _ hq)) k
theorem vv{K:Type}[DecidableEq K]{P:AV→Prop}{k:K}{x:AV}(hx:P x) : ∀ {l:List (K × AV)} (h : ∀p∈l,P p.2),∀p∈setK k x l,P p.2
 | [],_=>by intro p hp;simp[setK]at hp;rw[hp];exact hx
 | q :: l,h=>by
  intro p hp
  unfold setK at hp
  split at hp
  ·rcases List.mem_cons.1 hp with rfl | hp
   ·exact hx
   ·exact h p (List.mem_cons_of_mem _ hp)
  ·rcases List.mem_cons.1 hp with rfl | hp
   ·exact h _ List.mem_cons_self
   ·exact vv hx (fun p hp=>h p (List.mem_cons_of_mem _ hp)) p hp
theorem HH{l:List (Han × AV)}(h:KT l)(k:Han):(fj k l).getD (.agg [aB false,aI 0,aI 0])=(sesD (fj k l)).av:=by
 rcases BY (P:=fun x =>∃s:Ses,x=s.av) h k with e | ⟨x,e,s,rfl⟩
 ·rw[e];rfl
 ·rw[e,E5];rfl
theorem Ht{l:List (Lab × AV)}(h:KA l)(k:Lab):(fj k l).getD (.agg [a8 0,a32 0,aI 0,aI 0,aI 0])=(useD (fj k l)).av:=by
 rcases BY (P:=fun x =>∃u:Use,x=u.av) h k with e | ⟨x,e,u,rfl⟩
 ·rw[e];rfl
 ·rw[e,KB];rfl
def lR(z:Nat)(es:List AV)(H:Heap)(x y:AV):Prop:=(x=y∧Sl z es y) ∨∃r c,x = .osl r 0 es.length c∧H.get r=some ⟨z,es,true,true⟩∧y = .isl z es c∧es.length≤c.getD es.length
theorem lR.s{z:Nat}{es:List AV}{H:Heap}{x y:AV}(h:lR z es H x y):jl z es H x y:=by
 rcases h with h | ⟨r,c,h1,h2,h3,h4⟩
 ·exact .inl h
 ·exact .inr ⟨r,c,true,h1,h2,h3,h4⟩
theorem lR.refs{z:Nat}{es:List AV}{H:Heap}{x y:AV}(h:lR z es H x y)(n:Nat):ig H.get (ar H.get (n+1) x)=true:=by
 rcases h with ⟨rfl,h⟩ | ⟨r,c,rfl,hr,rfl,hc⟩
 ·rw[h.refs];rfl
 ·simp[hr]
theorem lR.of{z:Nat}{es:List AV}{x:AV}(h:Sl z es x)(H:Heap):lR z es H x x := .inl ⟨rfl,h⟩
structure Book where
 us:List Clear
 gr:Int
 ses:List (Han × AV)
 used:List (Lab × AV)
 hist:List (Opn × AV)
structure BookOk (b:Book):Prop where
 ses:KT b.ses
 used:KA b.used
 hist : ∀p∈b.hist,okO p∧p.1.l.length<1000000
 many:b.hist.length<10000
 few:b.us.length<1000000
structure BookAt (H:Heap) (rb:Ref) (us0:List Clear) (qs:List Quota) (gr0:Int) (b:Book):Prop where
 box : ∃xu xq yu yq wu wq xr rs ru xh vh,H.get rb=some ⟨10,[.agg [xu,xq,aI gr0,yu,yq,aI b.gr,xr,.mp rs,.mp ru,xh]],false,false⟩∧Sl 3 (gY us0) xu∧Sl 5 (iq qs) xq∧lR 3 (gY b.us) H yu wu∧lR 5 (iq qs) H yq wq ∧
  H.get rs=some (aY (cR hanK b.ses))∧H.get ru=some (aY (cR labK b.used))∧jl 17 (fO b.hist) H xh vh∧xr.cells=[xr]∧xr.one=true
theorem lR.grow{z:Nat}{es:List AV}{H H':Heap}{x y:AV}(h:lR z es H x y)(g:Grow H H'):lR z es H' x y:=by
 rcases h with h | ⟨r,c,rfl,hr,rfl,hc⟩
 ·exact .inl h
 ·exact .inr ⟨r,c,rfl,g.old _ _ hr,rfl,hc⟩
theorem jl.grow{z:Nat}{es:List AV}{H H':Heap}{x y:AV}(h:jl z es H x y)(g:Grow H H'):jl z es H' x y:=by
 rcases h with h | ⟨r,c,fz,rfl,hr,rfl,hc⟩
 ·exact .inl h
 ·exact .inr ⟨r,c,fz,rfl,g.old _ _ hr,rfl,hc⟩
theorem BookAt.grow{H H':Heap}{rb:Ref}{us0:List Clear}{qs:List Quota}{gr0:Int}{b:Book}(h:BookAt H rb us0 qs gr0 b)(g:Grow H H'):BookAt H' rb us0 qs gr0 b:=by
 obtain⟨xu,xq,yu,yq,wu,wq,xr,rs,ru,xh,vh,h1,h2,h3,h4,h5,h6,h7,h8,h9⟩:=h.box
 exact⟨xu,xq,yu,yq,wu,wq,xr,rs,ru,xh,vh,g.old _ _ h1,h2,h3,lR.grow h4 g,lR.grow h5 g,g.old _ _ h6,g.old _ _ h7,jl.grow h8 g,h9⟩
theorem CO{g:Get}{rs:Ref}{l:List (Han × AV)}(hb:KT l)(hr:g rs=some (aY (cR hanK l)))(h:Han):cB env.P g 126 (some (.mp rs)) (some (.agg [a8 h.lv,a32 h.cats,a8 h.num])) false=some ((sesD (fj h l)).av,[]):=by
 have e:=rD B1 zE (t:=126) (et:=73) (by kernel_rfl) (z := .agg [aB false,aI 0,aI 0]) (by kernel_rfl) hr h false
 rw[HH hb]at e
 exact e
theorem Ah{g:Get}{ru:Ref}{l:List (Lab × AV)}(hb:KA l)(hr:g ru=some (aY (cR labK l)))(v:Lab):cB env.P g 127 (some (.mp ru)) (some (.agg [a8 v.lv,a32 v.cats])) false=some ((useD (fj v l)).av,[]):=by
 have e:=rD B0 zB (t:=127) (et:=81) (by kernel_rfl) (z := .agg [a8 0,a32 0,aI 0,aI 0,aI 0]) (by kernel_rfl) hr v false
 rw[Ht hb]at e
 exact e
section
variable(dep:Nat){H:Heap}(hF:Fr H){rb:Ref}{us0:List Clear}{qs:List Quota}{gr0:Int}{b:Book}(hb:BookAt H rb us0 qs gr0 b)(hok:BookOk b)(hul:us0.length<1000000)(hql:qs.length<1000000)
include hF hb hok hul hql
theorem Gq(v1:UInt8)(v2:UInt32) : ∃H',limt env dep (.fn 146) [.ptr rb 0 0,.agg [a8 v1,a32 v2]] H =
 some (.tup [aB (decide ((useD (fj ⟨v1,v2⟩ b.used)).opens<(pa us0 qs gr0 v1 v2).opens)),aB (decide ((useD (fj ⟨v1,v2⟩ b.used)).ops<(pa us0 qs gr0 v1 v2).ops))],H')∧Grow H H':=by
 refine eg (fn:=Tryz.f146) (c:=fF) (by kernel_rfl) (by kernel_rfl) (by kernel_rfl) (by kernel_rfl) (by kernel_rfl) ?_
 refine jW _ _ _ _ _ fun g=>?_
 obtain⟨xu,xq,yu,yq,wu,wq,xr,rs,ru,xh,vh,h1,h2,h3,h4,h5,h6,h7,h8,h9⟩:=hb.box
 have hQ:=Fl (gr:=gr0) h2 h3 (by omega) (by omega) v1 v2
 have l1:(H.get rb).isSome=true:=by rw[h1];rfl
 have l7:(H.get ru).isSome=true:=by rw[h7];rfl
 have hlk:=fun(H':Heap)(h:H'.get ru=some (aY (cR labK b.used)))=>Ah (g:=H'.get) hok.used h ⟨v1,v2⟩
 have c4:=h4.s.cells
 have c5:=h5.s.cells
 have c8:=h8.cells
 generalize pa us0 qs gr0 v1 v2=q at *
 generalize useD (fj ⟨v1,v2⟩ b.used)=u at *
 obtain⟨q1,q2,q3,q4,q5⟩:=q
 obtain⟨u1,u2,u3⟩:=u
 have hfin : ∀b1 b2 b3:Blk,Grow H ((⟨dep+1,8,H.gen (dep+1) 8,0⟩,some b3) :: (⟨dep+1,6,H.gen (dep+1) 6,0⟩,some b2) :: (⟨dep+1,3,H.gen (dep+1) 3,0⟩,some b1) :: H):=fun b1 b2 b3=>⟨by simp(maxDischargeDepth:=12) [Heap.an,aq,aj,Fr.nil,au,af,ah,ad,ae,ao,ak,ab, *],fun q c hq=>by
  have lq:(H.get q).isSome=true:=by rw[hq];rfl
  simp[af hF lq,hq]⟩
 clear hb h4 h5 h8 hok
 simp[af,ah,ad,ae,ab, *,fK,h2.r,h3.r,Quota.enc,Use.av]
def yl(b:Book)(qs:List Quota)(user:Int)(v1:UInt8)(v2:UInt32):Bool:=decide (xg b.us qs b.gr v1=0)&&AD b.us user v1 v2
theorem J0(user:Int)(v1:UInt8)(v2:UInt32) : ∃H',limt env dep (.fn 147) [.ptr rb 0 0,aI user,.agg [a8 v1,a32 v2]] H=some (aB (yl b qs user v1 v2),H')∧Grow H H':=by
 refine eg (fn:=Tryz.f147) (c:=fT) (by kernel_rfl) (by kernel_rfl) (by kernel_rfl) (by kernel_rfl) (by kernel_rfl) ?_
 refine kU _ _ _ _ _ _ fun g=>?_
 obtain⟨xu,xq,yu,yq,wu,wq,xr,rs,ru,xh,vh,h1,h2,h3,h4,h5,h6,h7,h8,h9⟩:=hb.box
 have hM:=N9 (gr:=b.gr) h4.s.sl h5.s.sl (by omega) (by have:=hok.few;omega) user v1 v2
 have l1:(H.get rb).isSome=true:=by rw[h1];rfl
 have c4:=fun b1=>(h4.s.cons hF (dep+1) 5 (some b1)).r
 have c5:=fun b1=>(h5.s.cons hF (dep+1) 5 (some b1)).r
 have d4:=h4.s.cells
 have d5:=h5.s.cells
 have c8:=h8.cells
 have hg0:=Grow.refl hF
 have hfin : ∀b1:Blk,Grow H ((⟨dep+1,5,H.gen (dep+1) 5,0⟩,some b1) :: H):=fun b1=>Grow.cons hF _ _ _
 unfold yl
 clear hb h4 h5 h8 hok
 generalize AD b.us user v1 v2=ob at *
 by_cases hp:xg b.us qs b.gr v1=0
 ·rw[hp]at hM
  cases ob<;>simp[af,ah,ad,ae,ab, *,dG,h2.r,h3.r,hp]
 ·cases ob<;>simp[af,ah,ad,ae,ab, *,dG,h2.r,h3.r,hp]
def uV(us0:List Clear)(qs:List Quota)(gr0:Int)(b:Book)(o:Opn):Int :=
 if sx b.hist o≠0 then sx b.hist o else if o.kind=1∧(pa us0 qs gr0 o.h.lv o.h.cats).cells<IntKind.i64.wrap ((useD (fj ⟨o.h.lv,o.h.cats⟩ b.used)).cells+o.s.many) then 9 else 0
theorem DC(a_1:UInt8)(a_2:UInt8)(a_3:UInt32)(a_4:UInt8)(a_5:Int)(a_6:UInt8)(a_7:UInt32)(a_8:UInt8)(a_9:Int)(a_10:Int)(a_11:UInt8)(a_12:UInt32)(a_13:UInt8)(a_14:Int)(a_15:UInt8)(a_16:UInt32){x:AV}{al:List Int}(hx:Sl 1 (rows al) x)(hal:al.length<1000000) : ∃H',limt env dep (.fn 72) [.ptr rb 0 0,.agg [a8 a_1,a8 a_2,a32 a_3,a8 a_4,aI a_5,a8 a_6,a32 a_7,a8 a_8,aI a_9,aI a_10,a8 a_11,a32 a_12,a8 a_13,aI a_14,a8 a_15,a32 a_16,x]] H=some (aI (uV us0 qs gr0 b (⟨a_1,⟨a_2,a_3,a_4⟩,a_5,⟨⟨⟨a_6,a_7,a_8⟩,a_9⟩,a_10⟩,⟨⟨a_11,a_12,a_13⟩,a_14⟩,⟨a_15,a_16⟩,al⟩:Opn)),H')∧Grow H H':=by
 refine eg (fn:=Tryz.f72) (c:=eS) (by kernel_rfl) (by kernel_rfl) (by kernel_rfl) (by kernel_rfl) (by kernel_rfl) ?_
 refine iZ _ _ _ _ _ fun g=>?_
 obtain⟨xu,xq,yu,yq,wu,wq,xr,rs,ru,xh,vh,h1,h2,h3,h4,h5,h6,h7,h8,h9⟩:=hb.box
 have hQ:=Fl (gr:=gr0) h2 h3 (by omega) (by omega) a_2 a_3
 have hD:=Ft h8.sl hok.hist hok.many a_1 a_2 a_3 a_4 a_5 a_6 a_7 a_8 a_9 a_10 a_11 a_12 a_13 a_14 a_15 a_16 hx hal
 have l1:(H.get rb).isSome=true:=by rw[h1];rfl
 have l7:(H.get ru).isSome=true:=by rw[h7];rfl
 have hlk:=fun(H':Heap)(h:H'.get ru=some (aY (cR labK b.used)))=>Ah (g:=H'.get) hok.used h ⟨a_2,a_3⟩
 have c4:=h4.s.cells
 have c5:=h5.s.cells
 have c8:=fun b1=>(h8.cons hF (dep+1) 3 (some b1)).r
 have d8:=h8.cells
 have hg0:=Grow.refl hF
 have hfin1 : ∀b1:Blk,Grow H ((⟨dep+1,3,H.gen (dep+1) 3,0⟩,some b1) :: H):=fun b1=>Grow.cons hF _ _ _
 have hfin : ∀b1 b2:Blk,Grow H ((⟨dep+1,6,H.gen (dep+1) 6,0⟩,some b2) :: (⟨dep+1,3,H.gen (dep+1) 3,0⟩,some b1) :: H):=fun b1 b2=>⟨by simp(maxDischargeDepth:=12) [Heap.an,aq,aj,Fr.nil,au,af,ah,ad,ae,ao,ak,ab, *],fun q c hq=>by
  have lq:(H.get q).isSome=true:=by rw[hq];rfl
  simp[af hF lq,hq]⟩
 unfold uV
 simp only
 generalize pa us0 qs gr0 a_2 a_3=q at *
 generalize useD (fj ⟨a_2,a_3⟩ b.used)=u at *
 generalize sx b.hist (⟨a_1,⟨a_2,a_3,a_4⟩,a_5,⟨⟨⟨a_6,a_7,a_8⟩,a_9⟩,a_10⟩,⟨⟨a_11,a_12,a_13⟩,a_14⟩,⟨a_15,a_16⟩,al⟩:Opn)=e at *
 obtain⟨q1,q2,q3,q4,q5⟩:=q
 obtain⟨u1,u2,u3⟩:=u
 clear hb h4 h5 h8 hok
 by_cases he:e=0
 ·by_cases hk:a_1=1
  ·subst hk
   by_cases hc:q5<IntKind.i64.wrap (u3+a_10)
   ·simp[af,ah,ad,ae,ab, *,bC,h2.r,h3.r,hx.r,Quota.enc,Use.av]
   ·simp[af,ah,ad,ae,ab, *,bC,h2.r,h3.r,hx.r,Quota.enc,Use.av]
  ·simp[af,ah,ad,ae,ab, *,bC,h2.r,h3.r,hx.r,Quota.enc,Use.av]
 ·simp[af,ah,ad,ae,ab, *,bC,h2.r,h3.r,hx.r,Quota.enc,Use.av]
end
end Go.Proofs.YtmkmimgokagimaaGreat
