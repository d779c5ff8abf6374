/-
  What a log tells, under way: what is asked of it. No statement of a seat is proved here.
-/
import Derived.Test.YtmkmimgokagimaaGreatMLeQuota
import Derived.Test.YtmkmimgokagimaaGreatLeApp
import Derived.Test.YtmkmimgokagimaaGreatLeVc9
set_option linter.unusedVariables false
set_option linter.unusedSimpArgs false
set_option linter.unusedSectionVars false
set_option linter.unnecessarySimpa false
set_option maxRecDepth 100000
namespace Go.Proofs.YtmkmimgokagimaaGreat
open Go.Ab
attribute [local simp] bn aV aF bj bh keep thr bD aX bc dx dw cN bE aD ct List.take_of_length_le
structure Ses where
 o:Bool
 u:Int
 s:Int
structure Use where
 opens:Int
 ops:Int
 cells:Int
def Ses.av(s:Ses):AV := .agg [aB s.o,aI s.u,aI s.s]
def Use.av(u:Use):AV := .agg [a8 0,a32 0,aI u.opens,aI u.ops,aI u.cells]
def sesD:Option AV→Ses
 | some (.agg [.v (.bool o),.v (.int _ u),.v (.int _ s)])=>⟨o,u,s⟩
 | _=>⟨false,0,0⟩
def useD:Option AV→Use
 | some (.agg [_,_,.v (.int _ x),.v (.int _ y),.v (.int _ z)])=>⟨x,y,z⟩
 | _=>⟨0,0,0⟩
@[simp] theorem BO(s:Ses):sesD (some s.av)=s:=by cases s;rfl
@[simp] theorem Fh(u:Use):useD (some u.av)=u:=by cases u;rfl
def K1(l:List (Han × AV)):Prop :=∀p∈l,∃s:Ses,p.2=s.av
def KJ(l:List (Lab × AV)):Prop :=∀p∈l,∃u:Use,p.2=u.av
theorem Ch{K:Type}[DecidableEq K]{P:AV→Prop} : ∀ {l:List (K × AV)} (h : ∀p∈l,P p.2) (k:K),dc k l=none ∨∃x,dc k l=some x∧P x
 | [],_,_ => .inl rfl
 | p :: l,h,k=>by
  unfold dc
  split
  ·exact .inr ⟨p.2,rfl,h p List.mem_cons_self⟩
  ·exact Ch (fun q hq=>h q (List.mem_cons_of_mem _ hq)) k
theorem vx{K:Type}[DecidableEq K]{P:AV→Prop}{k:K}{x:AV}(hx:P x) : ∀ {l:List (K × AV)} (h : ∀p∈l,P p.2),∀p∈setK k x l,P p.2
 | [],_=>by intro p hp;simp[setK]at hp;rw[hp];exact hx
 | q :: l,h=>by
  intro p hp
  unfold setK at hp
  split at hp
  ·rcases List.mem_cons.1 hp with rfl | hp
   ·exact hx
   ·exact h p (List.mem_cons_of_mem _ hp)
  ·rcases List.mem_cons.1 hp with rfl | hp
   ·exact h _ List.mem_cons_self
   ·exact vx hx (fun p hp=>h p (List.mem_cons_of_mem _ hp)) p hp
theorem HY{l:List (Han × AV)}(h:K1 l)(k:Han):(dc k l).getD (.agg [aB false,aI 0,aI 0])=(sesD (dc k l)).av:=by
 rcases Ch (P:=fun x =>∃s:Ses,x=s.av) h k with e | ⟨x,e,s,rfl⟩
 ·rw[e];rfl
 ·rw[e,BO];rfl
theorem HL{l:List (Lab × AV)}(h:KJ l)(k:Lab):(dc k l).getD (.agg [a8 0,a32 0,aI 0,aI 0,aI 0])=(useD (dc k l)).av:=by
 rcases Ch (P:=fun x =>∃u:Use,x=u.av) h k with e | ⟨x,e,u,rfl⟩
 ·rw[e];rfl
 ·rw[e,Fh];rfl
def lQ(z:Nat)(es:List AV)(H:Heap)(x y:AV):Prop:=(x=y∧Sl z es y) ∨∃r c,x = .osl r 0 es.length c∧H.get r=some ⟨z,es,true,true⟩∧y = .isl z es c∧es.length≤c.getD es.length
theorem lQ.s{z:Nat}{es:List AV}{H:Heap}{x y:AV}(h:lQ z es H x y):jo z es H x y:=by
 rcases h with h | ⟨r,c,h1,h2,h3,h4⟩
 ·exact .inl h
 ·exact .inr ⟨r,c,true,h1,h2,h3,h4⟩
theorem lQ.refs{z:Nat}{es:List AV}{H:Heap}{x y:AV}(h:lQ z es H x y)(n:Nat):im H.get (ar H.get (n+1) x)=true:=by
 rcases h with ⟨rfl,h⟩ | ⟨r,c,rfl,hr,rfl,hc⟩
 ·rw[h.refs];rfl
 ·simp[hr]
theorem lQ.of{z:Nat}{es:List AV}{x:AV}(h:Sl z es x)(H:Heap):lQ z es H x x := .inl ⟨rfl,h⟩
structure Book where
 us:List Clear
 gr:Int
 ses:List (Han × AV)
 used:List (Lab × AV)
 hist:List (Opn × AV)
structure BookOk (b:Book):Prop where
 ses:K1 b.ses
 used:KJ b.used
 hist : ∀p∈b.hist,okO p∧p.1.l.length<1000000
 many:b.hist.length<10000
 few:b.us.length<1000000
structure BookAt (H:Heap) (rb:Ref) (us0:List Clear) (qs:List Quota) (gr0:Int) (b:Book):Prop where
 box : ∃xu xq yu yq wu wq xr rs ru xh vh,H.get rb=some ⟨10,[.agg [xu,xq,aI gr0,yu,yq,aI b.gr,xr,.mp rs,.mp ru,xh]],false,false⟩∧Sl 3 (gz us0) xu∧Sl 5 (gS qs) xq∧lQ 3 (gz b.us) H yu wu∧lQ 5 (gS qs) H yq wq ∧
  H.get rs=some (ba (cT hanK b.ses))∧H.get ru=some (ba (cT labK b.used))∧jo 17 (fS b.hist) H xh vh∧xr.cells=[xr]∧xr.one=true
theorem lQ.grow{z:Nat}{es:List AV}{H H':Heap}{x y:AV}(h:lQ z es H x y)(g:Grow H H'):lQ z es H' x y:=by
 rcases h with h | ⟨r,c,rfl,hr,rfl,hc⟩
 ·exact .inl h
 ·exact .inr ⟨r,c,rfl,g.old _ _ hr,rfl,hc⟩
theorem jo.grow{z:Nat}{es:List AV}{H H':Heap}{x y:AV}(h:jo z es H x y)(g:Grow H H'):jo z es H' x y:=by
 rcases h with h | ⟨r,c,fz,rfl,hr,rfl,hc⟩
 ·exact .inl h
 ·exact .inr ⟨r,c,fz,rfl,g.old _ _ hr,rfl,hc⟩
theorem BookAt.grow{H H':Heap}{rb:Ref}{us0:List Clear}{qs:List Quota}{gr0:Int}{b:Book}(h:BookAt H rb us0 qs gr0 b)(g:Grow H H'):BookAt H' rb us0 qs gr0 b:=by
 obtain⟨xu,xq,yu,yq,wu,wq,xr,rs,ru,xh,vh,h1,h2,h3,h4,h5,h6,h7,h8,h9⟩:=h.box
 exact⟨xu,xq,yu,yq,wu,wq,xr,rs,ru,xh,vh,g.old _ _ h1,h2,h3,lQ.grow h4 g,lQ.grow h5 g,g.old _ _ h6,g.old _ _ h7,jo.grow h8 g,h9⟩
theorem Dd{g:Get}{rs:Ref}{l:List (Han × AV)}(hb:K1 l)(hr:g rs=some (ba (cT hanK l)))(h:Han):cG env.P g 126 (some (.mp rs)) (some (.agg [a8 h.lv,a32 h.cats,a8 h.num])) false=some ((sesD (dc h l)).av,[]):=by
 have e:=rr Cl zS (t:=126) (et:=73) (by kernel_rfl) (z := .agg [aB false,aI 0,aI 0]) (by kernel_rfl) hr h false
 rw[HY hb]at e
 exact e
theorem yg{g:Get}{ru:Ref}{l:List (Lab × AV)}(hb:KJ l)(hr:g ru=some (ba (cT labK l)))(v:Lab):cG env.P g 127 (some (.mp ru)) (some (.agg [a8 v.lv,a32 v.cats])) false=some ((useD (dc v l)).av,[]):=by
 have e:=rr Ck zP (t:=127) (et:=81) (by kernel_rfl) (z := .agg [a8 0,a32 0,aI 0,aI 0,aI 0]) (by kernel_rfl) hr v false
 rw[HL hb]at e
 exact e
section
variable(dep:Nat){H:Heap}(hF:Fr H){rb:Ref}{us0:List Clear}{qs:List Quota}{gr0:Int}{b:Book}(hb:BookAt H rb us0 qs gr0 b)(hok:BookOk b)(hul:us0.length<1000000)(hql:qs.length<1000000)
include hF hb hok hul hql
theorem GH(v1:UInt8)(v2:UInt32) : ∃H',limt env dep (.fn 146) [.ptr rb 0 0,.agg [a8 v1,a32 v2]] H =
 some (.tup [aB (decide ((useD (dc ⟨v1,v2⟩ b.used)).opens<(eY us0 qs gr0 v1 v2).opens)),aB (decide ((useD (dc ⟨v1,v2⟩ b.used)).ops<(eY us0 qs gr0 v1 v2).ops))],H')∧Grow H H':=by
 refine dR (fn:=Tryz.f146) (c:=fJ) (by kernel_rfl) (by kernel_rfl) (by kernel_rfl) (by kernel_rfl) (by kernel_rfl) ?_
 refine jY _ _ _ _ _ fun g=>?_
 obtain⟨xu,xq,yu,yq,wu,wq,xr,rs,ru,xh,vh,h1,h2,h3,h4,h5,h6,h7,h8,h9⟩:=hb.box
 have hQ:=BQ (gr:=gr0) h2 h3 (by omega) (by omega) v1 v2
 have l1:(H.get rb).isSome=true:=by rw[h1];rfl
 have l7:(H.get ru).isSome=true:=by rw[h7];rfl
 have hlk:=fun(H':Heap)(h:H'.get ru=some (ba (cT labK b.used)))=>yg (g:=H'.get) hok.used h ⟨v1,v2⟩
 have c4:=h4.s.cells
 have c5:=h5.s.cells
 have c8:=h8.cells
 generalize eY us0 qs gr0 v1 v2=q at *
 generalize useD (dc ⟨v1,v2⟩ b.used)=u at *
 obtain⟨q1,q2,q3,q4,q5⟩:=q
 obtain⟨u1,u2,u3⟩:=u
 have hfin : ∀b1 b2 b3:Blk,Grow H ((⟨dep+1,8,H.gen (dep+1) 8,0⟩,some b3) :: (⟨dep+1,6,H.gen (dep+1) 6,0⟩,some b2) :: (⟨dep+1,3,H.gen (dep+1) 3,0⟩,some b1) :: H):=fun b1 b2 b3=>⟨by simp(maxDischargeDepth:=12) [Heap.an,aq,aj,Fr.nil,ax,af,ah,ad,ae,ao,ak,ab, *],fun q c hq=>by
  have lq:(H.get q).isSome=true:=by rw[hq];rfl
  simp[af hF lq,hq]⟩
 clear hb h4 h5 h8 hok
 simp[af,ah,ad,ae,ab, *,fO,h2.r,h3.r,Quota.enc,Use.av]
def yz(b:Book)(qs:List Quota)(user:Int)(v1:UInt8)(v2:UInt32):Bool:=decide (sg b.us qs b.gr v1=0)&&AS b.us user v1 v2
theorem Kg(user:Int)(v1:UInt8)(v2:UInt32) : ∃H',limt env dep (.fn 147) [.ptr rb 0 0,aI user,.agg [a8 v1,a32 v2]] H=some (aB (yz b qs user v1 v2),H')∧Grow H H':=by
 refine dR (fn:=Tryz.f147) (c:=fY) (by kernel_rfl) (by kernel_rfl) (by kernel_rfl) (by kernel_rfl) (by kernel_rfl) ?_
 refine kS _ _ _ _ _ _ fun g=>?_
 obtain⟨xu,xq,yu,yq,wu,wq,xr,rs,ru,xh,vh,h1,h2,h3,h4,h5,h6,h7,h8,h9⟩:=hb.box
 have hM:=Oh (gr:=b.gr) h4.s.sl h5.s.sl (by omega) (by have:=hok.few;omega) user v1 v2
 have l1:(H.get rb).isSome=true:=by rw[h1];rfl
 have c4:=fun b1=>(h4.s.cons hF (dep+1) 5 (some b1)).r
 have c5:=fun b1=>(h5.s.cons hF (dep+1) 5 (some b1)).r
 have d4:=h4.s.cells
 have d5:=h5.s.cells
 have c8:=h8.cells
 have hg0:=Grow.refl hF
 have hfin : ∀b1:Blk,Grow H ((⟨dep+1,5,H.gen (dep+1) 5,0⟩,some b1) :: H):=fun b1=>Grow.cons hF _ _ _
 unfold yz
 clear hb h4 h5 h8 hok
 generalize AS b.us user v1 v2=ob at *
 by_cases hp:sg b.us qs b.gr v1=0
 ·rw[hp]at hM
  cases ob<;>simp[af,ah,ad,ae,ab, *,dK,h2.r,h3.r,hp]
 ·cases ob<;>simp[af,ah,ad,ae,ab, *,dK,h2.r,h3.r,hp]
def rL(us0:List Clear)(qs:List Quota)(gr0:Int)(b:Book)(o:Opn):Int :=
 if sD b.hist o≠0 then sD b.hist o else if o.kind=1∧(eY us0 qs gr0 o.h.lv o.h.cats).cells<IntKind.i64.wrap ((useD (dc ⟨o.h.lv,o.h.cats⟩ b.used)).cells+o.s.many) then 9 else 0
theorem D2(a_1:UInt8)(a_2:UInt8)(a_3:UInt32)(a_4:UInt8)(a_5:Int)(a_6:UInt8)(a_7:UInt32)(a_8:UInt8)(a_9:Int)(a_10:Int)(a_11:UInt8)(a_12:UInt32)(a_13:UInt8)(a_14:Int)(a_15:UInt8)(a_16:UInt32){x:AV}{al:List Int}(hx:Sl 1 (rows al) x)(hal:al.length<1000000) : ∃H',limt env dep (.fn 72) [.ptr rb 0 0,.agg [a8 a_1,a8 a_2,a32 a_3,a8 a_4,aI a_5,a8 a_6,a32 a_7,a8 a_8,aI a_9,aI a_10,a8 a_11,a32 a_12,a8 a_13,aI a_14,a8 a_15,a32 a_16,x]] H=some (aI (rL us0 qs gr0 b (⟨a_1,⟨a_2,a_3,a_4⟩,a_5,⟨⟨⟨a_6,a_7,a_8⟩,a_9⟩,a_10⟩,⟨⟨a_11,a_12,a_13⟩,a_14⟩,⟨a_15,a_16⟩,al⟩:Opn)),H')∧Grow H H':=by
 refine dR (fn:=Tryz.f72) (c:=e9) (by kernel_rfl) (by kernel_rfl) (by kernel_rfl) (by kernel_rfl) (by kernel_rfl) ?_
 refine jc _ _ _ _ _ fun g=>?_
 obtain⟨xu,xq,yu,yq,wu,wq,xr,rs,ru,xh,vh,h1,h2,h3,h4,h5,h6,h7,h8,h9⟩:=hb.box
 have hQ:=BQ (gr:=gr0) h2 h3 (by omega) (by omega) a_2 a_3
 have hD:=FM h8.sl hok.hist hok.many a_1 a_2 a_3 a_4 a_5 a_6 a_7 a_8 a_9 a_10 a_11 a_12 a_13 a_14 a_15 a_16 hx hal
 have l1:(H.get rb).isSome=true:=by rw[h1];rfl
 have l7:(H.get ru).isSome=true:=by rw[h7];rfl
 have hlk:=fun(H':Heap)(h:H'.get ru=some (ba (cT labK b.used)))=>yg (g:=H'.get) hok.used h ⟨a_2,a_3⟩
 have c4:=h4.s.cells
 have c5:=h5.s.cells
 have c8:=fun b1=>(h8.cons hF (dep+1) 3 (some b1)).r
 have d8:=h8.cells
 have hg0:=Grow.refl hF
 have hfin1 : ∀b1:Blk,Grow H ((⟨dep+1,3,H.gen (dep+1) 3,0⟩,some b1) :: H):=fun b1=>Grow.cons hF _ _ _
 have hfin : ∀b1 b2:Blk,Grow H ((⟨dep+1,6,H.gen (dep+1) 6,0⟩,some b2) :: (⟨dep+1,3,H.gen (dep+1) 3,0⟩,some b1) :: H):=fun b1 b2=>⟨by simp(maxDischargeDepth:=12) [Heap.an,aq,aj,Fr.nil,ax,af,ah,ad,ae,ao,ak,ab, *],fun q c hq=>by
  have lq:(H.get q).isSome=true:=by rw[hq];rfl
  simp[af hF lq,hq]⟩
 unfold rL
 simp only
 generalize eY us0 qs gr0 a_2 a_3=q at *
 generalize useD (dc ⟨a_2,a_3⟩ b.used)=u at *
 generalize sD b.hist (⟨a_1,⟨a_2,a_3,a_4⟩,a_5,⟨⟨⟨a_6,a_7,a_8⟩,a_9⟩,a_10⟩,⟨⟨a_11,a_12,a_13⟩,a_14⟩,⟨a_15,a_16⟩,al⟩:Opn)=e at *
 obtain⟨q1,q2,q3,q4,q5⟩:=q
 obtain⟨u1,u2,u3⟩:=u
 clear hb h4 h5 h8 hok
 by_cases he:e=0
 ·by_cases hk:a_1=1
  ·subst hk
   by_cases hc:q5<IntKind.i64.wrap (u3+a_10)
   ·simp[af,ah,ad,ae,ab, *,bF,h2.r,h3.r,hx.r,Quota.enc,Use.av]
   ·simp[af,ah,ad,ae,ab, *,bF,h2.r,h3.r,hx.r,Quota.enc,Use.av]
  ·simp[af,ah,ad,ae,ab, *,bF,h2.r,h3.r,hx.r,Quota.enc,Use.av]
 ·simp[af,ah,ad,ae,ab, *,bF,h2.r,h3.r,hx.r,Quota.enc,Use.av]
end
end Go.Proofs.YtmkmimgokagimaaGreat
