/-
  What a log tells, under way: what is asked of it. No statement of a seat is proved here.
-/
import Derived.Test.YtmkmimgokagimaaGreatMLeDoc7
import Derived.Test.YtmkmimgokagimaaGreatLeApp
import Derived.Test.YtmkmimgokagimaaGreatLeQuota
import Derived.Test.YtmkmimgokagimaaGreatLeVc9
set_option linter.unusedVariables false
set_option linter.unusedSimpArgs false
set_option linter.unusedSectionVars false
set_option linter.unnecessarySimpa false
set_option maxRecDepth 100000
namespace Go.Proofs.YtmkmimgokagimaaGreat
open Go.Ab
attribute [local simp] bj aL aF bg bf keep thr bx aT bc da cZ cJ bD aD bM List.take_of_length_le
structure Ses where
 o:Bool
 u:Int
 s:Int
structure Use where
 opens:Int
 ops:Int
 cells:Int
def Ses.av(s:Ses):AV := .agg [aB s.o,aI s.u,aI s.s]
def Use.av(u:Use):AV := .agg [a8 0,a32 0,aI u.opens,aI u.ops,aI u.cells]
def sesD:Option AV→Ses
 | some (.agg [.v (.bool o),.v (.int _ u),.v (.int _ s)])=>⟨o,u,s⟩
 | _=>⟨false,0,0⟩
def useD:Option AV→Use
 | some (.agg [_,_,.v (.int _ x),.v (.int _ y),.v (.int _ z)])=>⟨x,y,z⟩
 | _=>⟨0,0,0⟩
@[simp] theorem yY(s:Ses):sesD (some s.av)=s:=by cases s;rfl
@[simp] theorem N0(u:Use):useD (some u.av)=u:=by cases u;rfl
def Oi(l:List (Han × AV)):Prop :=∀p∈l,∃s:Ses,p.2=s.av
def NZ(l:List (Lab × AV)):Prop :=∀p∈l,∃u:Use,p.2=u.av
theorem E0{K:Type}[DecidableEq K]{P:AV→Prop} : ∀ {l:List (K × AV)} (h : ∀p∈l,P p.2) (k:K),bE k l=none ∨∃x,bE k l=some x∧P x
 | [],_,_ => .inl rfl
 | p :: l,h,k=>by
  unfold bE
  split
  ·exact .inr ⟨p.2,rfl,h p List.mem_cons_self⟩
  ·exact E0 (fun q hq=>h q (List.mem_cons_of_mem _ hq)) k
theorem yX{K:Type}[DecidableEq K]{P:AV→Prop}{k:K}{x:AV}(hx:P x) : ∀ {l:List (K × AV)} (h : ∀p∈l,P p.2),∀p∈setK k x l,P p.2
 | [],_=>by intro p hp;simp[setK]at hp;rw[hp];exact hx
 | q :: l,h=>by
  intro p hp
  unfold setK at hp
  split at hp
  ·rcases List.mem_cons.1 hp with rfl | hp
   ·exact hx
   ·exact h p (List.mem_cons_of_mem _ hp)
  ·rcases List.mem_cons.1 hp with rfl | hp
   ·exact h _ List.mem_cons_self
   ·exact yX hx (fun p hp=>h p (List.mem_cons_of_mem _ hp)) p hp
theorem K3{l:List (Han × AV)}(h:Oi l)(k:Han):(bE k l).getD (.agg [aB false,aI 0,aI 0])=(sesD (bE k l)).av:=by
 rcases E0 (P:=fun x =>∃s:Ses,x=s.av) h k with e | ⟨x,e,s,rfl⟩
 ·rw[e];rfl
 ·rw[e,yY];rfl
theorem KQ{l:List (Lab × AV)}(h:NZ l)(k:Lab):(bE k l).getD (.agg [a8 0,a32 0,aI 0,aI 0,aI 0])=(useD (bE k l)).av:=by
 rcases E0 (P:=fun x =>∃u:Use,x=u.av) h k with e | ⟨x,e,u,rfl⟩
 ·rw[e];rfl
 ·rw[e,N0];rfl
def jj(z:Nat)(es:List AV)(H:Heap)(x y:AV):Prop:=(x=y∧Sl z es y) ∨∃r c,x = .osl r 0 es.length c∧H.get r=some ⟨z,es,true,true⟩∧y = .isl z es c∧es.length≤c.getD es.length
theorem jj.s{z:Nat}{es:List AV}{H:Heap}{x y:AV}(h:jj z es H x y):jQ z es H x y:=by
 rcases h with h | ⟨r,c,h1,h2,h3,h4⟩
 ·exact .inl h
 ·exact .inr ⟨r,c,true,h1,h2,h3,h4⟩
theorem jj.refs{z:Nat}{es:List AV}{H:Heap}{x y:AV}(h:jj z es H x y)(n:Nat):iE H.get (ay H.get (n+1) x)=true:=by
 rcases h with ⟨rfl,h⟩ | ⟨r,c,rfl,hr,rfl,hc⟩
 ·rw[h.refs];rfl
 ·simp[hr]
theorem jj.of{z:Nat}{es:List AV}{x:AV}(h:Sl z es x)(H:Heap):jj z es H x x := .inl ⟨rfl,h⟩
structure Book where
 us:List Clear
 gr:Int
 ses:List (Han × AV)
 used:List (Lab × AV)
 hist:List (Opn × AV)
structure BookOk (b:Book):Prop where
 ses:Oi b.ses
 used:NZ b.used
 hist : ∀p∈b.hist,okO p∧p.1.l.length<1000000
 many:b.hist.length<10000
 few:b.us.length<1000000
structure BookAt (H:Heap) (rb:Ref) (us0:List Clear) (qs:List Quota) (gr0:Int) (b:Book):Prop where
 box : ∃xu xq yu yq wu wq xr rs ru xh vh,H.get rb=some ⟨10,[.agg [xu,xq,aI gr0,yu,yq,aI b.gr,xr,.mp rs,.mp ru,xh]],false,false⟩∧Sl 3 (eN us0) xu∧Sl 5 (eQ qs) xq∧jj 3 (eN b.us) H yu wu∧jj 5 (eQ qs) H yq wq ∧
  H.get rs=some (bm (cX hanK b.ses))∧H.get ru=some (bm (cX labK b.used))∧jQ 17 (fZ b.hist) H xh vh∧xr.cells=[xr]∧xr.one=true
theorem jj.grow{z:Nat}{es:List AV}{H H':Heap}{x y:AV}(h:jj z es H x y)(g:Grow H H'):jj z es H' x y:=by
 rcases h with h | ⟨r,c,rfl,hr,rfl,hc⟩
 ·exact .inl h
 ·exact .inr ⟨r,c,rfl,g.old _ _ hr,rfl,hc⟩
theorem jQ.grow{z:Nat}{es:List AV}{H H':Heap}{x y:AV}(h:jQ z es H x y)(g:Grow H H'):jQ z es H' x y:=by
 rcases h with h | ⟨r,c,fz,rfl,hr,rfl,hc⟩
 ·exact .inl h
 ·exact .inr ⟨r,c,fz,rfl,g.old _ _ hr,rfl,hc⟩
theorem BookAt.grow{H H':Heap}{rb:Ref}{us0:List Clear}{qs:List Quota}{gr0:Int}{b:Book}(h:BookAt H rb us0 qs gr0 b)(g:Grow H H'):BookAt H' rb us0 qs gr0 b:=by
 obtain⟨xu,xq,yu,yq,wu,wq,xr,rs,ru,xh,vh,h1,h2,h3,h4,h5,h6,h7,h8,h9⟩:=h.box
 exact⟨xu,xq,yu,yq,wu,wq,xr,rs,ru,xh,vh,g.old _ _ h1,h2,h3,jj.grow h4 g,jj.grow h5 g,g.old _ _ h6,g.old _ _ h7,jQ.grow h8 g,h9⟩
theorem Dq{g:Get}{rs:Ref}{l:List (Han × AV)}(hb:Oi l)(hr:g rs=some (bm (cX hanK l)))(h:Han):cE env.P g 126 (some (.mp rs)) (some (.agg [a8 h.lv,a32 h.cats,a8 h.num])) false=some ((sesD (bE h l)).av,[]):=by
 have e:=ug E3 CH (t:=126) (et:=73) (by kernel_rfl) (z := .agg [aB false,aI 0,aI 0]) (by kernel_rfl) hr h false
 rw[K3 hb]at e
 exact e
theorem Bs{g:Get}{ru:Ref}{l:List (Lab × AV)}(hb:NZ l)(hr:g ru=some (bm (cX labK l)))(v:Lab):cE env.P g 127 (some (.mp ru)) (some (.agg [a8 v.lv,a32 v.cats])) false=some ((useD (bE v l)).av,[]):=by
 have e:=ug E2 CE (t:=127) (et:=81) (by kernel_rfl) (z := .agg [a8 0,a32 0,aI 0,aI 0,aI 0]) (by kernel_rfl) hr v false
 rw[KQ hb]at e
 exact e
section
variable(dep:Nat){H:Heap}(hF:Fr H){rb:Ref}{us0:List Clear}{qs:List Quota}{gr0:Int}{b:Book}(hb:BookAt H rb us0 qs gr0 b)(hok:BookOk b)(hul:us0.length<1000000)(hql:qs.length<1000000)
include hF hb hok hul hql
theorem JM(v1:UInt8)(v2:UInt32) : ∃H',limt env dep (.fn 146) [.ptr rb 0 0,.agg [a8 v1,a32 v2]] H =
 some (.tup [aB (decide ((useD (bE ⟨v1,v2⟩ b.used)).opens<(ir us0 qs gr0 v1 v2).opens)),aB (decide ((useD (bE ⟨v1,v2⟩ b.used)).ops<(ir us0 qs gr0 v1 v2).ops))],H')∧Grow H H':=by
 refine dt (fn:=Tryz.f146) (c:=fQ) (by kernel_rfl) (by kernel_rfl) (by kernel_rfl) (by kernel_rfl) (by kernel_rfl) ?_
 refine kO _ _ _ _ _ fun g=>?_
 obtain⟨xu,xq,yu,yq,wu,wq,xr,rs,ru,xh,vh,h1,h2,h3,h4,h5,h6,h7,h8,h9⟩:=hb.box
 have hQ:=Ev (gr:=gr0) h2 h3 (by omega) (by omega) v1 v2
 have l1:(H.get rb).isSome=true:=by rw[h1];rfl
 have l7:(H.get ru).isSome=true:=by rw[h7];rfl
 have hlk:=fun(H':Heap)(h:H'.get ru=some (bm (cX labK b.used)))=>Bs (g:=H'.get) hok.used h ⟨v1,v2⟩
 have c4:=h4.s.cells
 have c5:=h5.s.cells
 have c8:=h8.cells
 generalize ir us0 qs gr0 v1 v2=q at *
 generalize useD (bE ⟨v1,v2⟩ b.used)=u at *
 obtain⟨q1,q2,q3,q4,q5⟩:=q
 obtain⟨u1,u2,u3⟩:=u
 have hfin : ∀b1 b2 b3:Blk,Grow H ((⟨dep+1,8,H.gen (dep+1) 8,0⟩,some b3) :: (⟨dep+1,6,H.gen (dep+1) 6,0⟩,some b2) :: (⟨dep+1,3,H.gen (dep+1) 3,0⟩,some b1) :: H):=fun b1 b2 b3=>⟨by simp(maxDischargeDepth:=12) [Heap.an,au,ak,Fr.nil,az,af,ah,ad,ae,ar,ao,ab, *],fun q c hq=>by
  have lq:(H.get q).isSome=true:=by rw[hq];rfl
  simp[af hF lq,hq]⟩
 clear hb h4 h5 h8 hok
 simp[af,ah,ad,ae,ab, *,fV,h2.r,h3.r,Quota.enc,Use.av]
def kS(b:Book)(qs:List Quota)(user:Int)(v1:UInt8)(v2:UInt32):Bool:=decide (o5 b.us qs b.gr v1=0)&&nQ b.us user v1 v2
theorem Nh(user:Int)(v1:UInt8)(v2:UInt32) : ∃H',limt env dep (.fn 147) [.ptr rb 0 0,aI user,.agg [a8 v1,a32 v2]] H=some (aB (kS b qs user v1 v2),H')∧Grow H H':=by
 refine dt (fn:=Tryz.f147) (c:=gj) (by kernel_rfl) (by kernel_rfl) (by kernel_rfl) (by kernel_rfl) (by kernel_rfl) ?_
 refine lO _ _ _ _ _ _ fun g=>?_
 obtain⟨xu,xq,yu,yq,wu,wq,xr,rs,ru,xh,vh,h1,h2,h3,h4,h5,h6,h7,h8,h9⟩:=hb.box
 have hM:=MU (gr:=b.gr) h4.s.sl h5.s.sl (by omega) (by have:=hok.few;omega) user v1 v2
 have l1:(H.get rb).isSome=true:=by rw[h1];rfl
 have c4:=fun b1=>(h4.s.cons hF (dep+1) 5 (some b1)).r
 have c5:=fun b1=>(h5.s.cons hF (dep+1) 5 (some b1)).r
 have d4:=h4.s.cells
 have d5:=h5.s.cells
 have c8:=h8.cells
 have hg0:=Grow.refl hF
 have hfin : ∀b1:Blk,Grow H ((⟨dep+1,5,H.gen (dep+1) 5,0⟩,some b1) :: H):=fun b1=>Grow.cons hF _ _ _
 unfold kS
 clear hb h4 h5 h8 hok
 generalize nQ b.us user v1 v2=ob at *
 by_cases hp:o5 b.us qs b.gr v1=0
 ·rw[hp]at hM
  cases ob<;>simp[af,ah,ad,ae,ab, *,dL,h2.r,h3.r,hp]
 ·cases ob<;>simp[af,ah,ad,ae,ab, *,dL,h2.r,h3.r,hp]
def bw(us0:List Clear)(qs:List Quota)(gr0:Int)(b:Book)(o:Opn):Int :=
 if nY b.hist o≠0 then nY b.hist o else if o.kind=1∧(ir us0 qs gr0 o.h.lv o.h.cats).cells<IntKind.i64.wrap ((useD (bE ⟨o.h.lv,o.h.cats⟩ b.used)).cells+o.s.many) then 9 else 0
theorem Br(a_1:UInt8)(a_2:UInt8)(a_3:UInt32)(a_4:UInt8)(a_5:Int)(a_6:UInt8)(a_7:UInt32)(a_8:UInt8)(a_9:Int)(a_10:Int)(a_11:UInt8)(a_12:UInt32)(a_13:UInt8)(a_14:Int)(a_15:UInt8)(a_16:UInt32){x:AV}{al:List Int}(hx:Sl 1 (rows al) x)(hal:al.length<1000000) : ∃H',limt env dep (.fn 72) [.ptr rb 0 0,.agg [a8 a_1,a8 a_2,a32 a_3,a8 a_4,aI a_5,a8 a_6,a32 a_7,a8 a_8,aI a_9,aI a_10,a8 a_11,a32 a_12,a8 a_13,aI a_14,a8 a_15,a32 a_16,x]] H=some (aI (bw us0 qs gr0 b (⟨a_1,⟨a_2,a_3,a_4⟩,a_5,⟨⟨⟨a_6,a_7,a_8⟩,a_9⟩,a_10⟩,⟨⟨a_11,a_12,a_13⟩,a_14⟩,⟨a_15,a_16⟩,al⟩:Opn)),H')∧Grow H H':=by
 refine dt (fn:=Tryz.f72) (c:=ff) (by kernel_rfl) (by kernel_rfl) (by kernel_rfl) (by kernel_rfl) (by kernel_rfl) ?_
 refine jE _ _ _ _ _ fun g=>?_
 obtain⟨xu,xq,yu,yq,wu,wq,xr,rs,ru,xh,vh,h1,h2,h3,h4,h5,h6,h7,h8,h9⟩:=hb.box
 have hQ:=Ev (gr:=gr0) h2 h3 (by omega) (by omega) a_2 a_3
 have hD:=IS h8.sl hok.hist hok.many a_1 a_2 a_3 a_4 a_5 a_6 a_7 a_8 a_9 a_10 a_11 a_12 a_13 a_14 a_15 a_16 hx hal
 have l1:(H.get rb).isSome=true:=by rw[h1];rfl
 have l7:(H.get ru).isSome=true:=by rw[h7];rfl
 have hlk:=fun(H':Heap)(h:H'.get ru=some (bm (cX labK b.used)))=>Bs (g:=H'.get) hok.used h ⟨a_2,a_3⟩
 have c4:=h4.s.cells
 have c5:=h5.s.cells
 have c8:=fun b1=>(h8.cons hF (dep+1) 3 (some b1)).r
 have d8:=h8.cells
 have hg0:=Grow.refl hF
 have hfin1 : ∀b1:Blk,Grow H ((⟨dep+1,3,H.gen (dep+1) 3,0⟩,some b1) :: H):=fun b1=>Grow.cons hF _ _ _
 have hfin : ∀b1 b2:Blk,Grow H ((⟨dep+1,6,H.gen (dep+1) 6,0⟩,some b2) :: (⟨dep+1,3,H.gen (dep+1) 3,0⟩,some b1) :: H):=fun b1 b2=>⟨by simp(maxDischargeDepth:=12) [Heap.an,au,ak,Fr.nil,az,af,ah,ad,ae,ar,ao,ab, *],fun q c hq=>by
  have lq:(H.get q).isSome=true:=by rw[hq];rfl
  simp[af hF lq,hq]⟩
 unfold bw
 simp only
 generalize ir us0 qs gr0 a_2 a_3=q at *
 generalize useD (bE ⟨a_2,a_3⟩ b.used)=u at *
 generalize nY b.hist (⟨a_1,⟨a_2,a_3,a_4⟩,a_5,⟨⟨⟨a_6,a_7,a_8⟩,a_9⟩,a_10⟩,⟨⟨a_11,a_12,a_13⟩,a_14⟩,⟨a_15,a_16⟩,al⟩:Opn)=e at *
 obtain⟨q1,q2,q3,q4,q5⟩:=q
 obtain⟨u1,u2,u3⟩:=u
 clear hb h4 h5 h8 hok
 by_cases he:e=0
 ·by_cases hk:a_1=1
  ·subst hk
   by_cases hc:q5<IntKind.i64.wrap (u3+a_10)
   ·simp[af,ah,ad,ae,ab, *,bJ,h2.r,h3.r,hx.r,Quota.enc,Use.av]
   ·simp[af,ah,ad,ae,ab, *,bJ,h2.r,h3.r,hx.r,Quota.enc,Use.av]
  ·simp[af,ah,ad,ae,ab, *,bJ,h2.r,h3.r,hx.r,Quota.enc,Use.av]
 ·simp[af,ah,ad,ae,ab, *,bJ,h2.r,h3.r,hx.r,Quota.enc,Use.av]
end
end Go.Proofs.YtmkmimgokagimaaGreat
namespace Go.Proofs.YtmkmimgokagimaaGreat
open Go.Ab
attribute [local simp] bj aL aF bg bf keep thr bx aT bc da cZ cJ bD aD bM List.take_of_length_le
theorem vF(g:Get)(a b:List Ref):iE g (a++b)=(iE g a&&iE g b):=by
 unfold iE;rw[List.all_append]
theorem DO{f:FuncId}(hm:(env.mode f == 2)=true){dep:Nat}{H:Heap}{args:List AV}{y:AV}(h : ∃H',limt env dep (.fn f) args H=some (y,H')∧Grow H H')(hf:flat depth y=true)(r:Ref) :
 jT env true (limf env) (limt env dep) H r (some (.fn (.func f) [] [])) args=some (y,H):=by
 obtain⟨H',h1,h2⟩:=h
 have hm':env.mode f=2:=by simpa using hm
 have e:([]++args++[]:List AV)=args:=by simp
 have hs:env.sm.f H H'=true:=E9 h2.old
 simp only[jT,jF,mI,if_pos hm',e,h1,nRes,orW,Option.map_none,cond_true]
 show oN true env.sm H (some (y,H'))=_
 simp only[oN,hf,hs,Bool.or_true,Bool.and_true,if_true]
@[simp] theorem Lt(u:Value)(y:AV):kq (.v u) y=true:=id rfl
@[simp] theorem UA(y:AV):kq AV.undef y=true:=id rfl
def nG(b:Book)(o:Opn):Ses:=sesD (bE o.h b.ses)
def s8(b:Book)(o:Opn):Use:=useD (bE ⟨o.h.lv,o.h.cats⟩ b.used)
def Fb(us0:List Clear)(qs:List Quota)(gr0:Int)(b:Book)(r:Rcd):Bool :=
 !(nG b r.op).o&&(kS b qs r.user r.op.h.lv r.op.h.cats&&decide ((s8 b r.op).opens<(ir us0 qs gr0 r.op.h.lv r.op.h.cats).opens))
def DS(us0:List Clear)(qs:List Quota)(gr0:Int)(b:Book)(r:Rcd):Bool :=
 (nG b r.op).o&&(kS b qs (nG b r.op).u r.op.h.lv r.op.h.cats&&(decide (r.op.serial=IntKind.i64.wrap ((nG b r.op).s+1))&&(decide ((s8 b r.op).ops<(ir us0 qs gr0 r.op.h.lv r.op.h.cats).ops)&&decide (r.code=bw us0 qs gr0 b r.op))))
def HC(qs:List Quota)(b:Book)(r:Rcd):Bool:=decide (xI b.us qs b.gr r.gu r.gv r.gc r.gok=0)
section
variable(dep:Nat){H:Heap}(hF:Fr H){rb:Ref}{us0:List Clear}{qs:List Quota}{gr0:Int}{b:Book}(hb:BookAt H rb us0 qs gr0 b)(hok:BookOk b)(hul:us0.length<1000000)(hql:qs.length<1000000)
include hF hb hok hul hql
theorem Nn(k:UInt8)(u:Int)(a_1:UInt8)(a_2:UInt8)(a_3:UInt32)(a_4:UInt8)(a_5:Int)(a_6:UInt8)(a_7:UInt32)(a_8:UInt8)(a_9:Int)(a_10:Int)(a_11:UInt8)(a_12:UInt32)(a_13:UInt8)(a_14:Int)(a_15:UInt8)(a_16:UInt32)(c g1:Int)(v:UInt8)(w:UInt32)(o:Bool){x:AV}{al:List Int}(hx:Sl 1 (rows al) x) :
 ∃H',limt env dep (.fn 145) [.ptr rb 0 0,.agg [a8 k,aI u,a8 a_1,a8 a_2,a32 a_3,a8 a_4,aI a_5,a8 a_6,a32 a_7,a8 a_8,aI a_9,aI a_10,a8 a_11,a32 a_12,a8 a_13,aI a_14,a8 a_15,a32 a_16,x,aI c,aI g1,a8 v,a32 w,aB o]] H=some (aB (Fb us0 qs gr0 b ⟨k,u,(⟨a_1,⟨a_2,a_3,a_4⟩,a_5,⟨⟨⟨a_6,a_7,a_8⟩,a_9⟩,a_10⟩,⟨⟨a_11,a_12,a_13⟩,a_14⟩,⟨a_15,a_16⟩,al⟩:Opn),c,g1,v,w,o⟩),H')∧Grow H H':=by
 refine dt (fn:=Tryz.f145) (c:=pz) (by kernel_rfl) (by kernel_rfl) (by kernel_rfl) (by kernel_rfl) (by kernel_rfl) ?_
 refine vU _ _ _ _ _ fun g=>?_
 have hg1 : ∀b1:Blk,Grow H ((⟨dep+1,3,H.gen (dep+1) 3,0⟩,some b1) :: H):=fun b1=>Grow.cons hF _ _ _
 have hL:=JM (dep+1) (hg1 ⟨24,[.agg [a8 k,aI u,a8 a_1,a8 a_2,a32 a_3,a8 a_4,aI a_5,a8 a_6,a32 a_7,a8 a_8,aI a_9,aI a_10,a8 a_11,a32 a_12,a8 a_13,aI a_14,a8 a_15,a32 a_16,x,aI c,aI g1,a8 v,a32 w,aB o]],false,false⟩).fr (hb.grow (hg1 _)) hok hul hql a_2 a_3
 simp[af,ah,ad,ae,ab, *,pP,hx.r]
 refine jm (by kernel_rfl) hL fun H2 hG=>?_
 have hG2:=(hg1 _).trans hG
 have hbx:=hG.old ⟨dep+1,3,H.gen (dep+1) 3,0⟩ _ (by simp;rfl)
 have hb2:=hb.grow hG2
 obtain⟨xu,xq,yu,yq,wu,wq,xr,rs,ru,xh,vh,h1,h2,h3,h4,h5,h6,h7,h8,h9⟩:=hb2.box
 have hlk:=Dq (g:=H2.get) hok.ses h6 ⟨a_2,a_3,a_4⟩
 have hM:=Nh (dep+1) hG2.fr hb2 hok hul hql u a_2 a_3
 have c4:=h4.s.cells
 have c5:=h5.s.cells
 have c8:=h8.cells
 unfold Fb nG s8
 simp only
 generalize kS b qs u a_2 a_3=mn at *
 generalize decide ((useD (bE ⟨a_2,a_3⟩ b.used)).opens<(ir us0 qs gr0 a_2 a_3).opens)=lo at *
 generalize sesD (bE ⟨a_2,a_3,a_4⟩ b.ses)=ss at *
 obtain⟨s1,s2,s3⟩:=ss
 cases s1 with
 | true=>simp[hbx,h1,hlk,hx.r,c4,c5,c8,h2.r,h3.r,Ses.av,hG2]
 | false =>
  simp[hbx,h1,hlk,hx.r,c4,c5,c8,h2.r,h3.r,Ses.av]
  refine jm (by kernel_rfl) hM fun H3 hG3=>?_
  have hG4:=hG2.trans hG3
  cases mn<;>simp[hG4]
theorem Nm(k:UInt8)(u:Int)(a_1:UInt8)(a_2:UInt8)(a_3:UInt32)(a_4:UInt8)(a_5:Int)(a_6:UInt8)(a_7:UInt32)(a_8:UInt8)(a_9:Int)(a_10:Int)(a_11:UInt8)(a_12:UInt32)(a_13:UInt8)(a_14:Int)(a_15:UInt8)(a_16:UInt32)(c g1:Int)(v:UInt8)(w:UInt32)(o:Bool){x:AV}{al:List Int}(hx:Sl 1 (rows al) x)(hal:al.length<1000000) :
 ∃H',limt env dep (.fn 149) [.ptr rb 0 0,.agg [a8 k,aI u,a8 a_1,a8 a_2,a32 a_3,a8 a_4,aI a_5,a8 a_6,a32 a_7,a8 a_8,aI a_9,aI a_10,a8 a_11,a32 a_12,a8 a_13,aI a_14,a8 a_15,a32 a_16,x,aI c,aI g1,a8 v,a32 w,aB o]] H=some (aB (DS us0 qs gr0 b ⟨k,u,(⟨a_1,⟨a_2,a_3,a_4⟩,a_5,⟨⟨⟨a_6,a_7,a_8⟩,a_9⟩,a_10⟩,⟨⟨a_11,a_12,a_13⟩,a_14⟩,⟨a_15,a_16⟩,al⟩:Opn),c,g1,v,w,o⟩),H')∧Grow H H':=by
 refine dt (fn:=Tryz.f149) (c:=pw) (by kernel_rfl) (by kernel_rfl) (by kernel_rfl) (by kernel_rfl) (by kernel_rfl) ?_
 refine vS _ _ _ _ _ fun g=>?_
 have hgr : ∀b1 b2:Blk,Grow H ((⟨dep+1,5,H.gen (dep+1) 5,0⟩,some b2) :: (⟨dep+1,3,H.gen (dep+1) 3,0⟩,some b1) :: H):=fun b1 b2=>⟨by simp(maxDischargeDepth:=12) [Heap.an,au,ak,Fr.nil,az,af,ah,ad,ae,ar,ao,ab, *],fun q c hq=>by
  have lq:(H.get q).isSome=true:=by rw[hq];rfl
  simp[af hF lq,hq]⟩
 obtain⟨xu,xq,yu,yq,wu,wq,xr,rs,ru,xh,vh,h1,h2,h3,h4,h5,h6,h7,h8,h9⟩:=hb.box
 have l1:(H.get rb).isSome=true:=by rw[h1];rfl
 have l6:(H.get rs).isSome=true:=by rw[h6];rfl
 have c4:=h4.s.cells
 have c5:=h5.s.cells
 have c8:=h8.cells
 have hlk:=fun(H':Heap)(h:H'.get rs=some (bm (cX hanK b.ses)))=>Dq (g:=H'.get) hok.ses h ⟨a_2,a_3,a_4⟩
 unfold DS nG s8
 simp only
 generalize hss:sesD (bE ⟨a_2,a_3,a_4⟩ b.ses)=ss at *
 obtain⟨s1,s2,s3⟩:=ss
 simp[af,ah,ad,ae,ab, *,pN,hx.r,h1,h6,hlk,Ses.av]
 refine jm (by kernel_rfl) (JM (dep+1) (hgr _ _).fr (hb.grow (hgr _ _)) hok hul hql _ _) fun H4 hG=>?_
 have hG2:=(hgr _ _).trans hG
 have b3:=hG.old ⟨dep+1,3,H.gen (dep+1) 3,0⟩ _ (by simp;rfl)
 have b5:=hG.old ⟨dep+1,5,H.gen (dep+1) 5,0⟩ _ (by simp;rfl)
 have hb4:=hb.grow hG2
 have hM:=DO (by kernel_rfl) (Nh (dep+1) hG.fr hb4 hok hul hql s2 a_2 a_3) rfl
 have hV:=DO (by kernel_rfl) (Br (dep+1) hG.fr hb4 hok hul hql a_1 a_2 a_3 a_4 a_5 a_6 a_7 a_8 a_9 a_10 a_11 a_12 a_13 a_14 a_15 a_16 hx hal) rfl
 generalize kS b qs s2 a_2 a_3=mn at *
 generalize decide ((useD (bE ⟨a_2,a_3⟩ b.used)).opens<(ir us0 qs gr0 a_2 a_3).opens)=lo at *
 generalize decide ((useD (bE ⟨a_2,a_3⟩ b.used)).ops<(ir us0 qs gr0 a_2 a_3).ops)=lp at *
 generalize bw us0 qs gr0 b (⟨a_1,⟨a_2,a_3,a_4⟩,a_5,⟨⟨⟨a_6,a_7,a_8⟩,a_9⟩,a_10⟩,⟨⟨a_11,a_12,a_13⟩,a_14⟩,⟨a_15,a_16⟩,al⟩:Opn)=ve at *
 have hH4:=hG.fr
 clear hb hb4 h4 h5 h8 hok hlk
 cases s1 with
 | false=>simp[b3,b5,hx.r,jn,hG2]
 | true =>
 cases mn with
 | false=>simp[b3,b5,hx.r,jn,hM,hG2]
 | true =>
 by_cases he:a_5=IntKind.i64.wrap (s3+1)
 ·subst he
  cases lp with
  | false=>simp[b3,b5,hx.r,jn,hM,hG2]
  | true=>simp[b3,b5,hx.r,jn,hM,hV,hG2]
 ·simp[b3,b5,hx.r,jn,hM,he,hG2]
theorem Nl(k:UInt8)(u:Int)(a_1:UInt8)(a_2:UInt8)(a_3:UInt32)(a_4:UInt8)(a_5:Int)(a_6:UInt8)(a_7:UInt32)(a_8:UInt8)(a_9:Int)(a_10:Int)(a_11:UInt8)(a_12:UInt32)(a_13:UInt8)(a_14:Int)(a_15:UInt8)(a_16:UInt32)(c g1:Int)(v:UInt8)(w:UInt32)(o:Bool){x:AV}{al:List Int}(hx:Sl 1 (rows al) x) :
 ∃H',limt env dep (.fn 151) [.ptr rb 0 0,.agg [a8 k,aI u,a8 a_1,a8 a_2,a32 a_3,a8 a_4,aI a_5,a8 a_6,a32 a_7,a8 a_8,aI a_9,aI a_10,a8 a_11,a32 a_12,a8 a_13,aI a_14,a8 a_15,a32 a_16,x,aI c,aI g1,a8 v,a32 w,aB o]] H=some (aB (HC qs b ⟨k,u,(⟨a_1,⟨a_2,a_3,a_4⟩,a_5,⟨⟨⟨a_6,a_7,a_8⟩,a_9⟩,a_10⟩,⟨⟨a_11,a_12,a_13⟩,a_14⟩,⟨a_15,a_16⟩,al⟩:Opn),c,g1,v,w,o⟩),H')∧Grow H H':=by
 refine dt (fn:=Tryz.f151) (c:=pv) (by kernel_rfl) (by kernel_rfl) (by kernel_rfl) (by kernel_rfl) (by kernel_rfl) ?_
 refine vR _ _ _ _ _ fun g=>?_
 obtain⟨xu,xq,yu,yq,wu,wq,xr,rs,ru,xh,vh,h1,h2,h3,h4,h5,h6,h7,h8,h9⟩:=hb.box
 have l1:(H.get rb).isSome=true:=by rw[h1];rfl
 have c4:=fun b1=>(h4.s.cons hF (dep+1) 3 (some b1)).r
 have c5:=fun b1=>(h5.s.cons hF (dep+1) 3 (some b1)).r
 have d4:=h4.s.cells
 have d5:=h5.s.cells
 have d8:=h8.cells
 have hfin : ∀b1 b2:Blk,Grow H ((⟨dep+1,5,H.gen (dep+1) 5,0⟩,some b2) :: (⟨dep+1,3,H.gen (dep+1) 3,0⟩,some b1) :: H):=fun b1 b2=>⟨by simp(maxDischargeDepth:=12) [Heap.an,au,ak,Fr.nil,az,af,ah,ad,ae,ar,ao,ab, *],fun q c hq=>by
  have lq:(H.get q).isSome=true:=by rw[hq];rfl
  simp[af hF lq,hq]⟩
 unfold HC
 simp only
 have hfew:=hok.few
 by_cases he:xI b.us qs b.gr g1 v w o=0
 ·obtain⟨yy,hyy,hA⟩:=F2 (gr:=b.gr) h4.s.sl h5.s.sl (by omega) (by omega) g1 v w o he
  have z4:=(jj.grow h4 (Grow.cons hF (dep+1) 3 ⟨24,[.agg [a8 k,aI u,a8 a_1,a8 a_2,a32 a_3,a8 a_4,aI a_5,a8 a_6,a32 a_7,a8 a_8,aI a_9,aI a_10,a8 a_11,a32 a_12,a8 a_13,aI a_14,a8 a_15,a32 a_16,x,aI c,aI g1,a8 v,a32 w,aB o]],false,false⟩)).refs 6
  have z5:=(jj.grow h5 (Grow.cons hF (dep+1) 3 ⟨24,[.agg [a8 k,aI u,a8 a_1,a8 a_2,a32 a_3,a8 a_4,aI a_5,a8 a_6,a32 a_7,a8 a_8,aI a_9,aI a_10,a8 a_11,a32 a_12,a8 a_13,aI a_14,a8 a_15,a32 a_16,x,aI c,aI g1,a8 v,a32 w,aB o]],false,false⟩)).refs 6
  have hyr:=hyy.r
  clear hb h4 h5 h8 hok
  simp[af,ah,ad,ae,ab, *,mf,hx.r,h2.r,h3.r,vF]
  done
 ·have hA:=IQ (gr:=b.gr) h4.s.sl h5.s.sl (by omega) (by omega) g1 v w o he
  clear hb h4 h5 h8 hok
  simp[af,ah,ad,ae,ab, *,mf,hx.r,h2.r,h3.r]
end
end Go.Proofs.YtmkmimgokagimaaGreat
