/-
  What a log tells, under way: what a record does. No statement of a seat is proved here.
-/
import Derived.Test.YtmkmimgokagimaaGreatMLeKinds
import Derived.Test.YtmkmimgokagimaaGreatLeTw
set_option linter.unusedVariables false
set_option linter.unusedSimpArgs false
set_option linter.unusedSectionVars false
set_option linter.unnecessarySimpa false
set_option maxRecDepth 100000
namespace Go.Proofs.YtmkmimgokagimaaGreat
open Go.Ab
attribute [local simp] bj aL aF bg bf keep thr bx aT bc da cZ cJ bD aD bM List.take_of_length_le
structure BookX (H:Heap) (rb rs ru:Ref) (xh xr:AV) (us0:List Clear) (qs:List Quota) (gr0:Int) (b:Book):Prop where
 box : ∃xu xq yu yq wu wq,H.get rb=some ⟨10,[.agg [xu,xq,aI gr0,yu,yq,aI b.gr,xr,.mp rs,.mp ru,xh]],false,false⟩∧Sl 3 (eN us0) xu∧Sl 5 (eQ qs) xq∧jj 3 (eN b.us) H yu wu∧jj 5 (eQ qs) H yq wq
 ses:H.get rs=some (bm (cX hanK b.ses))
 use:H.get ru=some (bm (cX labK b.used))
 hist:Own 17 (fZ b.hist) H xh
 one:xr.cells=[xr]∧xr.one=true
 sep:rb≠rs∧rb≠ru∧rs≠ru∧xh.at?≠some rb∧xh.at?≠some rs∧xh.at?≠some ru
 t43 : ∀r,xh.at?=some r→r.t=43
theorem jG{z:Nat}{es:List AV}{H:Heap}{x:AV}(h:Own z es H x) : ∃y,jQ z es H x y:=by
 rcases h with ⟨rfl,rfl⟩ | ⟨r,rfl,hr⟩
 ·exact⟨aNil,.inl ⟨rfl,.inl ⟨rfl,rfl⟩⟩⟩
 ·exact⟨_,.inr ⟨r,none,false,rfl,hr,rfl,Nat.le_refl _⟩⟩
theorem BookX.at{H:Heap}{rb rs ru:Ref}{xh xr:AV}{us0:List Clear}{qs:List Quota}{gr0:Int}{b:Book}(h:BookX H rb rs ru xh xr us0 qs gr0 b):BookAt H rb us0 qs gr0 b:=by
 obtain⟨xu,xq,yu,yq,wu,wq,h1,h2,h3,h4,h5⟩:=h.box
 obtain⟨vh,h6⟩:=jG h.hist
 exact⟨xu,xq,yu,yq,wu,wq,xr,rs,ru,xh,vh,h1,h2,h3,h4,h5,h.ses,h.use,h6,h.one⟩
structure Did (H H':Heap) (rb rs ru:Ref) (xh xh':AV):Prop where
 fr:Fr H'
 old : ∀q c,H.get q=some c→q≠rb→q≠rs→q≠ru→xh.at?≠some q→H'.get q=some c∧xh'.at?≠some q
theorem jj.keep{z:Nat}{es:List AV}{H H':Heap}{x y:AV}(h:jj z es H x y)(g : ∀q c,H.get q=some c→c.frz=true→H'.get q=some c):jj z es H' x y:=by
 rcases h with h | ⟨r,c,rfl,hr,rfl,hc⟩
 ·exact .inl h
 ·exact .inr ⟨r,c,rfl,g _ _ hr rfl,rfl,hc⟩
theorem BookX.upd{H H':Heap}{rb rs ru:Ref}{xh xr:AV}{us0:List Clear}{qs:List Quota}{gr0:Int}{b b':Book}(h:BookX H rb rs ru xh xr us0 qs gr0 b)(hu:b'.us=b.us)(hg:b'.gr=b.gr)(hh:b'.hist=b.hist)
 (hF:Fr H') (h1:H'.get rs=some (bm (cX hanK b'.ses))) (h2:H'.get ru=some (bm (cX labK b'.used))) (hk : ∀q c,H.get q=some c→q≠rs→q≠ru→H'.get q=some c) :
 BookX H' rb rs ru xh xr us0 qs gr0 b'∧Did H H' rb rs ru xh xh:=by
 obtain⟨xu,xq,yu,yq,wu,wq,e1,e2,e3,e4,e5⟩:=h.box
 have hz : ∀q c,H.get q=some c→c.frz=true→H'.get q=some c:=by
  intro q c hq hf
  refine hk q c hq ?_ ?_
  ·rintro rfl;rw[h.ses]at hq;cases hq;exact absurd hf (by simp[bm])
  ·rintro rfl;rw[h.use]at hq;cases hq;exact absurd hf (by simp[bm])
 refine⟨⟨⟨xu,xq,yu,yq,wu,wq,?_,e2,e3,?_,e5.keep hz⟩,h1,h2,?_,h.one,h.sep,h.t43⟩,⟨hF,fun q c hq _ h3 h4 h5=>⟨hk q c hq h3 h4,h5⟩⟩⟩
 ·rw[hg];exact hk _ _ e1 h.sep.1 h.sep.2.1
 ·rw[hu];exact e4.keep hz
 ·rw[hh]
  rcases h.hist with ho | ⟨r,rfl,hr⟩
  ·exact .inl ho
  ·exact .inr ⟨r,rfl,hk _ _ hr (fun e=>h.sep.2.2.2.2.1 (by rw[e];rfl)) (fun e=>h.sep.2.2.2.2.2 (by rw[e];rfl))⟩
def tu(b:Book)(o:Opn)(u:Int):Book :=
 {b with ses:=setK o.h (Ses.av ⟨true,u,0⟩) b.ses,used:=setK ⟨o.h.lv,o.h.cats⟩ (Use.av { s8 b o with opens:=IntKind.i64.wrap ((s8 b o).opens+1)}) b.used}
def Kf(b:Book)(o:Opn)(code:Int):Use := { s8 b o with ops:=IntKind.i64.wrap ((s8 b o).ops+1),cells:=if code=0∧o.kind=1 then IntKind.i64.wrap ((s8 b o).cells+o.s.many) else (s8 b o).cells}
def doOp(b:Book)(o:Opn)(code:Int)(y:AV):Book :=
 {b with ses:=setK o.h (Ses.av { nG b o with s:=IntKind.i64.wrap ((nG b o).s+1)}) b.ses,used:=setK ⟨o.h.lv,o.h.cats⟩ (Use.av (Kf b o code)) b.used,hist:=if code=0 then b.hist++[(o,y)] else b.hist}
def zY(b:Book)(u:Int)(v:UInt8)(c:UInt32)(ok:Bool):Book := { b with us:=b.us.set u.toNat ⟨v,c,ok⟩,gr:=IntKind.i64.wrap (b.gr - 1)}
theorem N2{H:Heap}{rs:Ref}{l:List (Han × AV)}(hr:H.get rs=some (bm (cX hanK l)))(h:Han)(x:AV):cR env.P H 126 (some (.mp rs)) (some (.agg [a8 h.lv,a32 h.cats,a8 h.num])) (some x)=some (AV.undef,H.put rs (some (bm (cX hanK (setK h x l))))) :=
 od E3 CH (t:=126) (et:=73) (by kernel_rfl) hr h x
theorem N1{H:Heap}{ru:Ref}{l:List (Lab × AV)}(hr:H.get ru=some (bm (cX labK l)))(v:Lab)(x:AV):cR env.P H 127 (some (.mp ru)) (some (.agg [a8 v.lv,a32 v.cats])) (some x)=some (AV.undef,H.put ru (some (bm (cX labK (setK v x l))))) :=
 od E2 CE (t:=127) (et:=81) (by kernel_rfl) hr v x
section
variable(dep:Nat){H:Heap}(hF:Fr H){rb rs ru:Ref}{xh xr:AV}{us0:List Clear}{qs:List Quota}{gr0:Int}{b:Book}(hb:BookX H rb rs ru xh xr us0 qs gr0 b)(hok:BookOk b)
include hF hb hok
theorem Sz(k:UInt8)(u:Int)(a_1:UInt8)(a_2:UInt8)(a_3:UInt32)(a_4:UInt8)(a_5:Int)(a_6:UInt8)(a_7:UInt32)(a_8:UInt8)(a_9:Int)(a_10:Int)(a_11:UInt8)(a_12:UInt32)(a_13:UInt8)(a_14:Int)(a_15:UInt8)(a_16:UInt32)(c g1:Int)(v:UInt8)(w:UInt32)(o:Bool){x:AV}{al:List Int}(hx:Sl 1 (rows al) x) :
 ∃H',limt env dep (.fn 148) [.ptr rb 0 0,.agg [a8 k,aI u,a8 a_1,a8 a_2,a32 a_3,a8 a_4,aI a_5,a8 a_6,a32 a_7,a8 a_8,aI a_9,aI a_10,a8 a_11,a32 a_12,a8 a_13,aI a_14,a8 a_15,a32 a_16,x,aI c,aI g1,a8 v,a32 w,aB o]] H=some (.v (.tuple #[]),H')∧BookX H' rb rs ru xh xr us0 qs gr0 (tu b (⟨a_1,⟨a_2,a_3,a_4⟩,a_5,⟨⟨⟨a_6,a_7,a_8⟩,a_9⟩,a_10⟩,⟨⟨a_11,a_12,a_13⟩,a_14⟩,⟨a_15,a_16⟩,al⟩:Opn) u)∧Did H H' rb rs ru xh xh:=by
 have hgo:GoL env Tryz.f148 (dep+1) [.code py] (q0 0 [.ptr rb 0 0,.agg [a8 k,aI u,a8 a_1,a8 a_2,a32 a_3,a8 a_4,aI a_5,a8 a_6,a32 a_7,a8 a_8,aI a_9,aI a_10,a8 a_11,a32 a_12,a8 a_13,aI a_14,a8 a_15,a32 a_16,x,aI c,aI g1,a8 v,a32 w,aB o]]) H fun y H1=>y = .v (.tuple #[])∧BookX H1 rb rs ru xh xr us0 qs gr0 (tu b (⟨a_1,⟨a_2,a_3,a_4⟩,a_5,⟨⟨⟨a_6,a_7,a_8⟩,a_9⟩,a_10⟩,⟨⟨a_11,a_12,a_13⟩,a_14⟩,⟨a_15,a_16⟩,al⟩:Opn) u)∧Did H H1 rb rs ru xh xh:=by
  refine vT _ _ _ _ _ fun g=>?_
  have hup:=fun H'=>hb.upd (H':=H') (b':=tu b (⟨a_1,⟨a_2,a_3,a_4⟩,a_5,⟨⟨⟨a_6,a_7,a_8⟩,a_9⟩,a_10⟩,⟨⟨a_11,a_12,a_13⟩,a_14⟩,⟨a_15,a_16⟩,al⟩:Opn) u) rfl rfl rfl
  obtain⟨xu,xq,yu,yq,wu,wq,h1,h2,h3,h4,h5⟩:=hb.box
  have h6:=hb.ses
  have h7:=hb.use
  have c4:=h4.s.cells
  have c5:=h5.s.cells
  have c8:xh.cells=[xh]∧xh.one=true:=by obtain⟨_,hs⟩:=jG hb.hist;exact hs.cells
  have c9:=hb.one
  have l1:(H.get rb).isSome=true:=by rw[h1];rfl
  have l6:(H.get rs).isSome=true:=by rw[h6];rfl
  have l7:(H.get ru).isSome=true:=by rw[h7];rfl
  obtain⟨s1,s2,s3,_⟩:=hb.sep
  have s1':=s1.symm
  have s2':=s2.symm
  have s3':=s3.symm
  have hu1:=fun(H':Heap)(h:H'.get rs=some (bm (cX hanK b.ses)))=>N2 h ⟨a_2,a_3,a_4⟩
  have hu2:=fun(H':Heap)(h:H'.get ru=some (bm (cX labK b.used)))=>N1 h ⟨a_2,a_3⟩
  have hlk:=fun(H':Heap)(h:H'.get ru=some (bm (cX labK b.used)))=>Bs (g:=H'.get) hok.used h ⟨a_2,a_3⟩
  simp only[tu,s8]at hup
  unfold tu s8
  simp only
  generalize useD (bE ⟨a_2,a_3⟩ b.used)=uu at *
  obtain⟨u1,u2,u3⟩:=uu
  clear hb h4 h5 hok
  simp only[Ses.av,Use.av]at hup
  simp[af,ah,ad,ae,ab, *,pO,hx.r,h1,h6,h7,hlk,hu1,hu2,Ses.av,Use.av]
  clear hu1 hu2 hlk
  refine hup _ ?_ ?_ ?_ fun q cc hq n1 n2=>?_
  ·exact by simp(maxDischargeDepth:=12) [Heap.an,au,ak,Fr.nil,az,af,ah,ad,ae,ar,ao,ab, *]
  ·exact by simp(maxDischargeDepth:=12) [Heap.an,au,ak,Fr.nil,az,af,ah,ad,ae,ar,ao,ab, *]
  ·exact by simp(maxDischargeDepth:=12) [Heap.an,au,ak,Fr.nil,az,af,ah,ad,ae,ar,ao,ab, *]
  ·have lq:(H.get q).isSome=true:=by rw[hq];rfl
   simp[af hF lq,Heap.an,n1,n2,n1.symm,n2.symm,hq]
 obtain⟨y,H',h1,rfl,h2⟩:=iw (by kernel_rfl) (by kernel_rfl) (by kernel_rfl) (by kernel_rfl) (by kernel_rfl) hgo
 exact⟨H',h1,h2⟩
theorem Sx(k:UInt8)(u:Int)(a_1:UInt8)(a_2:UInt8)(a_3:UInt32)(a_4:UInt8)(a_5:Int)(a_6:UInt8)(a_7:UInt32)(a_8:UInt8)(a_9:Int)(a_10:Int)(a_11:UInt8)(a_12:UInt32)(a_13:UInt8)(a_14:Int)(a_15:UInt8)(a_16:UInt32)(c g1:Int)(v:UInt8)(w:UInt32)(o:Bool){x:AV}{al:List Int}(hx:Sl 1 (rows al) x)(hql:qs.length<1000000)(he:xI b.us qs b.gr g1 v w o=0) :
 ∃H',limt env dep (.fn 153) [.ptr rb 0 0,.agg [a8 k,aI u,a8 a_1,a8 a_2,a32 a_3,a8 a_4,aI a_5,a8 a_6,a32 a_7,a8 a_8,aI a_9,aI a_10,a8 a_11,a32 a_12,a8 a_13,aI a_14,a8 a_15,a32 a_16,x,aI c,aI g1,a8 v,a32 w,aB o]] H=some (.v (.tuple #[]),H')∧BookX H' rb rs ru xh xr us0 qs gr0 (zY b g1 v w o)∧Did H H' rb rs ru xh xh:=by
 have hgo:GoL env Tryz.f153 (dep+1) [.code pt] (q0 0 [.ptr rb 0 0,.agg [a8 k,aI u,a8 a_1,a8 a_2,a32 a_3,a8 a_4,aI a_5,a8 a_6,a32 a_7,a8 a_8,aI a_9,aI a_10,a8 a_11,a32 a_12,a8 a_13,aI a_14,a8 a_15,a32 a_16,x,aI c,aI g1,a8 v,a32 w,aB o]]) H fun y H1=>y = .v (.tuple #[])∧BookX H1 rb rs ru xh xr us0 qs gr0 (zY b g1 v w o)∧Did H H1 rb rs ru xh xh:=by
  refine vQ _ _ _ _ _ fun g=>?_
  obtain⟨xu,xq,yu,yq,wu,wq,h1,h2,h3,h4,h5⟩:=hb.box
  have h6:=hb.ses
  have h7:=hb.use
  have c8:xh.cells=[xh]∧xh.one=true:=by obtain⟨_,hs⟩:=jG hb.hist;exact hs.cells
  have c9:=hb.one
  have l1:(H.get rb).isSome=true:=by rw[h1];rfl
  have hfew:=hok.few
  have c4:=fun b1=>(h4.s.cons hF (dep+1) 3 (some b1)).r
  have c5:=fun b1=>(h5.s.cons hF (dep+1) 3 (some b1)).r
  have d4:=h4.s.cells
  have d5:=h5.s.cells
  obtain⟨yy,hyy,hA⟩:=F2 (gr:=b.gr) h4.s.sl h5.s.sl (by omega) (by omega) g1 v w o he
  have z4:=(jj.grow h4 (Grow.cons hF (dep+1) 3 ⟨24,[.agg [a8 k,aI u,a8 a_1,a8 a_2,a32 a_3,a8 a_4,aI a_5,a8 a_6,a32 a_7,a8 a_8,aI a_9,aI a_10,a8 a_11,a32 a_12,a8 a_13,aI a_14,a8 a_15,a32 a_16,x,aI c,aI g1,a8 v,a32 w,aB o]],false,false⟩)).refs 6
  have z5:=(jj.grow h5 (Grow.cons hF (dep+1) 3 ⟨24,[.agg [a8 k,aI u,a8 a_1,a8 a_2,a32 a_3,a8 a_4,aI a_5,a8 a_6,a32 a_7,a8 a_8,aI a_9,aI a_10,a8 a_11,a32 a_12,a8 a_13,aI a_14,a8 a_15,a32 a_16,x,aI c,aI g1,a8 v,a32 w,aB o]],false,false⟩)).refs 6
  have hyr:=hyy.r
  have hfin : ∀H',Fr H'→H'.get rb=some ⟨10,[.agg [xu,xq,aI gr0,.isl 3 (eN (b.us.set g1.toNat ⟨v,w,o⟩)) none,yy,aI (IntKind.i64.wrap (b.gr - 1)),xr,.mp rs,.mp ru,xh]],false,false⟩→(∀q c,H.get q=some c→q≠rb→H'.get q=some c) →
   BookX H' rb rs ru xh xr us0 qs gr0 (zY b g1 v w o)∧Did H H' rb rs ru xh xh:=by
   intro H' f1 f2 f3
   refine⟨⟨⟨xu,xq,_,yy,_,yy,f2,h2,h3,jj.of (Sl.mk _ _) H',jj.of hyy H'⟩,f3 _ _ h6 hb.sep.1.symm,f3 _ _ h7 hb.sep.2.1.symm,?_,c9,hb.sep,hb.t43⟩,⟨f1,fun q c hq n1 n2 n3 n4=>⟨f3 q c hq n1,n4⟩⟩⟩
   rcases hb.hist with ho | ⟨r,rfl,hr⟩
   ·exact .inl ho
   ·exact .inr ⟨r,rfl,f3 _ _ hr (fun e=>hb.sep.2.2.2.1 (by rw[e];rfl))⟩
  clear hb h4 h5 hok
  simp[af,ah,ad,ae,ab, *,pM,hx.r,h2.r,h3.r,vF]
  refine hfin _ ?_ ?_ fun q cc hq n1=>?_
  ·exact by simp(maxDischargeDepth:=12) [Heap.an,au,ak,Fr.nil,az,af,ah,ad,ae,ar,ao,ab, *]
  ·exact by simp(maxDischargeDepth:=12) [Heap.an,au,ak,Fr.nil,az,af,ah,ad,ae,ar,ao,ab, *]
  ·have lq:(H.get q).isSome=true:=by rw[hq];rfl
   simp[af hF lq,Heap.an,n1,n1.symm,hq]
 obtain⟨y,H',h1,rfl,h2⟩:=iw (by kernel_rfl) (by kernel_rfl) (by kernel_rfl) (by kernel_rfl) (by kernel_rfl) hgo
 exact⟨H',h1,h2⟩
end
end Go.Proofs.YtmkmimgokagimaaGreat
