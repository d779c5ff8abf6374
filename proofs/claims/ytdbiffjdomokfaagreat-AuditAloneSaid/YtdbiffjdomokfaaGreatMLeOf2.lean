/-
  What a log tells: the kinds, and a round of the loop. No statement of a seat is proved here.
-/
import Derived.Test.YtdbiffjdomokfaaGreatLeDo2
set_option linter.unusedVariables false
set_option linter.unusedSimpArgs false
set_option linter.unusedSectionVars false
set_option linter.unnecessarySimpa false
set_option maxRecDepth 100000
namespace Go.Proofs.YtdbiffjdomokfaaGreat
open Go.Ab
attribute [local simp] bD bp bl bC bB cV lj bP bt bA dc db cg bR aV cm List.take_of_length_le
def QO(f g:FuncId):AV := .agg [.fn (.func f) [] [],.fn (.func g) [] []]
def sa:List AV:=[.tup [a8 1,QO 71 74],.tup [a8 2,QO 75 77],.tup [a8 3,QO 79 81]]
theorem P8:bj env 43 []=some (.fsl 0 (.v (.bool true) :: sa) none):=AE (n:=400) (by kernel_rfl)
theorem QP(wk:Bool)(dep:Nat)(H:ab)(d t g:Nat):bo env wk (bj env) (bV env dep) H ⟨d,t,g,0⟩ (some (.fn (.func 43) [] [])) []=some (.mp ⟨d,t,g,0⟩,(⟨d,t,g,0⟩,some (bw sa)) :: H):=by
 have hm:env.mode 43=1:=by kernel_rfl
 have e:([]++[]++[]:List AV)=[]:=rfl
 have e2:(pure []:Option (List AV))=some []:=rfl
 simp only[bo,ik,hm,e,List.mapM_nil,e2,P8]
 cases wk<;>rfl
theorem BN:Dy env.P 102=some (5,108):=by kernel_rfl
theorem Tn{g:dk}{r:Ref}(h:g r=some (bw sa)):da env.P g 102 (some (.mp r)) (some (a8 1)) false=some (QO 71 74,[]):=by
 have hm:hJ g r=some sa:=by unfold hJ;rw[h];rfl
 have hv:fP (a8 1)=some (.int .u8 1):=by kernel_rfl
 simp only[da,BN,Option.bind_some,hv,hm]
 show _=_
 kernel_rfl
theorem Tm{g:dk}{r:Ref}(h:g r=some (bw sa)):da env.P g 102 (some (.mp r)) (some (a8 2)) false=some (QO 75 77,[]):=by
 have hm:hJ g r=some sa:=by unfold hJ;rw[h];rfl
 have hv:fP (a8 2)=some (.int .u8 2):=by kernel_rfl
 simp only[da,BN,Option.bind_some,hv,hm]
 show _=_
 kernel_rfl
theorem Tl{g:dk}{r:Ref}(h:g r=some (bw sa)):da env.P g 102 (some (.mp r)) (some (a8 3)) false=some (QO 79 81,[]):=by
 have hm:hJ g r=some sa:=by unfold hJ;rw[h];rfl
 have hv:fP (a8 3)=some (.int .u8 3):=by kernel_rfl
 simp only[da,BN,Option.bind_some,hv,hm]
 show _=_
 kernel_rfl
end Go.Proofs.YtdbiffjdomokfaaGreat
namespace Go.Proofs.YtdbiffjdomokfaaGreat
open Go.Ab
attribute [local simp] bD bp bl bC bB cV lj bP bt bA dc db cg bR aV cm List.take_of_length_le
theorem Own.grow{z:Nat}{es:List AV}{H H':ab}{x:AV}(h:Own z es H x)(g:cE H H'):Own z es H' x:=by
 rcases h with h | ⟨r,rfl,hr⟩
 ·exact .inl h
 ·exact .inr ⟨r,rfl,g.old _ _ hr⟩
theorem jr.grow{H H':ab}{rb rs ru:Ref}{xh xr:AV}{us0:List Clear}{qs:List bu}{gr0:Int}{b:fF}(h:jr H rb rs ru xh xr us0 qs gr0 b)(g:cE H H'):jr H' rb rs ru xh xr us0 qs gr0 b:=by
 obtain⟨xu,xq,yu,yq,wu,wq,e1,e2,e3,e4,e5⟩:=h.box
 exact⟨⟨xu,xq,yu,yq,wu,wq,g.old _ _ e1,e2,e3,e4.grow g,e5.grow g⟩,g.old _ _ h.ses,g.old _ _ h.use,Own.grow h.dZ g,h.one,h.sep,h.t43⟩
structure KZ (H0 H:ab) (rb rs ru rk:Ref) (xh xr:AV) (us0:List Clear) (qs:List bu) (gr0:Int) (b:fF) (recs:List (gA × AV)):Prop where
 g:cE H0 H
 bk:jr H rb rs ru xh xr us0 qs gr0 b
 row:Own 24 (bU recs) H xr
 t62 : ∀r,xr.at?=some r→r.t=62∧H0.get r=none
 new : ∀r,xh.at?=some r→H0.get r=none
 kd:H.get rk=some (bw sa)
 tt:rb.t=24∧rs.t=21∧ru.t=22∧rk.t=25
 nn:H0.get rb=none∧H0.get rs=none∧H0.get ru=none
section
variable{H0 H H':ab}{rb rs ru rk:Ref}{xh xr:AV}{us0:List Clear}{qs:List bu}{gr0:Int}{b:fF}{recs:List (gA × AV)}(h:KZ H0 H rb rs ru rk xh xr us0 qs gr0 b recs)
include h
theorem KZ.grow(g:cE H H'):KZ H0 H' rb rs ru rk xh xr us0 qs gr0 b recs :=
 ⟨h.g.trans g,h.bk.grow g,Own.grow h.row g,h.t62,h.new,g.old _ _ h.kd,h.tt,h.nn⟩
theorem KZ.ne{q:Ref}{c:bN}(hq:H0.get q=some c):q≠rb∧q≠rs∧q≠ru∧xh.at?≠some q∧xr.at?≠some q:=by
 obtain⟨n1,n2,n3⟩:=h.nn
 refine⟨?_,?_,?_,?_,?_⟩
 ·rintro rfl;rw[n1]at hq;cases hq
 ·rintro rfl;rw[n2]at hq;cases hq
 ·rintro rfl;rw[n3]at hq;cases hq
 ·intro e;have:=h.new q e;rw[hq]at this;cases this
 ·intro e;have:=(h.t62 q e).2;rw[hq]at this;cases this
theorem KZ.did{xh':AV}{b':fF}(hb:jr H' rb rs ru xh' xr us0 qs gr0 b')(hd:K0 H H' rb rs ru xh xh'):KZ H0 H' rb rs ru rk xh' xr us0 qs gr0 b' recs:=by
 obtain⟨t1,t2,t3,t4⟩:=h.tt
 have hne : ∀q c,H0.get q=some c→H'.get q=some c∧xh'.at?≠some q:=by
  intro q c hq
  obtain⟨e1,e2,e3,e4,_⟩:=h.ne hq
  exact hd.old q c (h.g.old q c hq) e1 e2 e3 e4
 have h43 : ∀(q:Ref),q.t≠43→xh.at?≠some q:=fun q hq e=>hq (h.bk.t43 q e)
 refine⟨⟨hd.fr,fun q c hq=>(hne q c hq).1⟩,hb,?_,h.t62,?_,?_,h.tt,h.nn⟩
 ·rcases h.row with ho | ⟨r,rfl,hr⟩
  ·exact .inl ho
  ·have ht:=(h.t62 r rfl).1
   exact .inr ⟨r,rfl,(hd.old r _ hr (by rintro rfl;omega) (by rintro rfl;omega) (by rintro rfl;omega) (h43 r (by omega))).1⟩
 ·intro r e
  cases hr:H0.get r with
  | none=>rfl
  | some c=>exact absurd e (hne r c hr).2
 ·exact(hd.old rk _ h.kd (by rintro rfl;omega) (by rintro rfl;omega) (by rintro rfl;omega) (h43 rk (by omega))).1
theorem KZ.put{xr':AV}{recs':List (gA × AV)}(hF:Fr H')(ho:Own 24 (bU recs') H' xr')(ht : ∀r,xr'.at?=some r→r.t=62)
 (hbx : ∀xu xq yu yq,H.get rb=some ⟨10,[.agg [xu,xq,aI gr0,yu,yq,aI b.gr,xr,.mp rs,.mp ru,xh]],false,false⟩→H'.get rb=some ⟨10,[.agg [xu,xq,aI gr0,yu,yq,aI b.gr,xr',.mp rs,.mp ru,xh]],false,false⟩)
 (hk : ∀q c,H.get q=some c→xr'.at?≠some q∧(q≠rb→xr.at?≠some q→H'.get q=some c)):KZ H0 H' rb rs ru rk xh xr' us0 qs gr0 b recs':=by
 obtain⟨t1,t2,t3,t4⟩:=h.tt
 have h62 : ∀(q:Ref),q.t≠62→xr.at?≠some q:=fun q hq e=>hq (h.t62 q e).1
 obtain⟨xu,xq,yu,yq,wu,wq,e1,e2,e3,e4,e5⟩:=h.bk.box
 have hz : ∀q c,H.get q=some c→c.jb=true→H'.get q=some c:=by
  intro q c hq hf
  refine(hk q c hq).2 ?_ ?_
  ·rintro rfl;rw[e1]at hq;cases hq;exact absurd hf (by simp)
  ·intro e
   rcases h.row with ⟨rfl,_⟩ | ⟨r,rfl,hr⟩
   ·cases e
   ·simp only[AV.at?,Option.some.injEq]at e;subst e;rw[hr]at hq;cases hq;exact absurd hf (by simp)
 refine⟨⟨hF,fun q c hq=>?_⟩,⟨⟨xu,xq,yu,yq,wu,wq,hbx _ _ _ _ e1,e2,e3,e4.cV hz,e5.cV hz⟩,?_,?_,?_,?_,h.bk.sep,h.bk.t43⟩,ho,fun r e=>⟨ht r e,?_⟩,h.new,?_,h.tt,h.nn⟩
 ·obtain⟨n1,n2,n3,n4,n5⟩:=h.ne hq
  exact(hk q c (h.g.old q c hq)).2 n1 n5
 ·exact(hk _ _ h.bk.ses).2 (by rintro rfl;omega) (h62 _ (by omega))
 ·exact(hk _ _ h.bk.use).2 (by rintro rfl;omega) (h62 _ (by omega))
 ·rcases h.bk.dZ with ho | ⟨r,rfl,hr⟩
  ·exact .inl ho
  ·have:=h.bk.t43 r rfl
   exact .inr ⟨r,rfl,(hk _ _ hr).2 (by rintro rfl;omega) (h62 _ (by omega))⟩
 ·obtain⟨_,hs⟩:=oM ho;exact hs.cells
 ·cases hr:H0.get r with
  | none=>rfl
  | some c=>exact absurd e (hk r c (h.g.old r c hr)).1
 ·exact(hk _ _ h.kd).2 (by rintro rfl;omega) (h62 _ (by omega))
end
theorem BO{f:FuncId}(hm:(env.mode f == 2)=true){dep:Nat}{H H':ab}{r:Ref}{first args captured:List AV}{y:AV}{K:AV→ab→Prop}{m:Mk K}
 (h:bV env dep (.fn f) (first++args++captured) H=some (y,H')) (hk:K y H') :
 aO (bo env true (bj env) (bV env dep) H r (some (.fn (.func f) first captured)) args) K m:=by
 refine pH (v:=y) (H:=H') ?_ hk
 rw[Ak hm]
 exact h
theorem Ni(k:UInt8)(u:Int)(bh:UInt8)(aQ:UInt8)(aP:UInt32)(aW:UInt8)(aY:Int)(bc:UInt8)(ba:UInt32)(bf:UInt8)(bg:Int)(au:Int)(az:UInt8)(ay:UInt32)(ax:UInt8)(aw:Int)(aC:UInt8)(aA:UInt32)(c g1:Int)(v:UInt8)(w:UInt32)(o:Bool){x:AV}{al:List Int}(hx:Sl 1 (rows al) x)(hal:al.length<1000000) :
 ∃y,y=q0 x∧Sl 1 (rows al) y∧bj env 45 [.agg [a8 k,aI u,a8 bh,a8 aQ,aG aP,a8 aW,aI aY,a8 bc,aG ba,a8 bf,aI bg,aI au,a8 az,aG ay,a8 ax,aI aw,a8 aC,aG aA,x,aI c,aI g1,a8 v,aG w,aB o]]=some (.agg [a8 k,aI u,a8 bh,a8 aQ,aG aP,a8 aW,aI aY,a8 bc,aG ba,a8 bf,aI bg,aI au,a8 az,aG ay,a8 ax,aI aw,a8 aC,aG aA,y,aI c,aI g1,a8 v,aG w,aB o]):=Qb (p:=(⟨k,u,(⟨bh,⟨aQ,aP,aW⟩,aY,⟨⟨⟨bc,ba,bf⟩,bg⟩,au⟩,⟨⟨az,ay,ax⟩,aw⟩,⟨aC,aA⟩,al⟩:bG),c,g1,v,w,o⟩,x)) ⟨hx,hal⟩
theorem Ax(k:UInt8)(u:Int)(bh:UInt8)(aQ:UInt8)(aP:UInt32)(aW:UInt8)(aY:Int)(bc:UInt8)(ba:UInt32)(bf:UInt8)(bg:Int)(au:Int)(az:UInt8)(ay:UInt32)(ax:UInt8)(aw:Int)(aC:UInt8)(aA:UInt32)(c g1:Int)(v:UInt8)(w:UInt32)(o:Bool){x:AV}{al:List Int}(hx:Sl 1 (rows al) x)(hal:al.length<1000000) :
 bj env 44 [.agg [a8 k,aI u,a8 bh,a8 aQ,aG aP,a8 aW,aI aY,a8 bc,aG ba,a8 bf,aI bg,aI au,a8 az,aG ay,a8 ax,aI aw,a8 aC,aG aA,x,aI c,aI g1,a8 v,aG w,aB o]]=some (aI (if m4 ⟨k,u,(⟨bh,⟨aQ,aP,aW⟩,aY,⟨⟨⟨bc,ba,bf⟩,bg⟩,au⟩,⟨⟨az,ay,ax⟩,aw⟩,⟨aC,aA⟩,al⟩:bG),c,g1,v,w,o⟩ then 0 else 8)):=I1 (p:=(⟨k,u,(⟨bh,⟨aQ,aP,aW⟩,aY,⟨⟨⟨bc,ba,bf⟩,bg⟩,au⟩,⟨⟨az,ay,ax⟩,aw⟩,⟨aC,aA⟩,al⟩:bG),c,g1,v,w,o⟩,x)) ⟨hx,hal⟩
section
variable{l:List (gA × AV)}{x26:AV}(hx:Sl 24 (bU l) x26)(hl:l.length<10000){H0:ab}{Q:AV→ab→Prop}{dep:Nat}{rb rs ru rk:Ref}{us0:List Clear}{qs:List bu}{gr0:Int}
include hx hl
theorem Fu{i:Nat}(hi:i<l.length){H:ab}{xh xr:AV}{b b':fF}{recs:List (gA × AV)}(hI:KZ H0 H rb rs ru rk xh xr us0 qs gr0 b recs)(hrl:recs.length≤10000){fi fd:FuncId}(hm1:(env.mode fi == 2)=true)(hm2:(env.mode fd == 2)=true)
 (k:UInt8) (u:Int) (bh:UInt8) (aQ:UInt8) (aP:UInt32) (aW:UInt8) (aY:Int) (bc:UInt8) (ba:UInt32) (bf:UInt8) (bg:Int) (au:Int) (az:UInt8) (ay:UInt32) (ax:UInt8) (aw:Int) (aC:UInt8) (aA:UInt32) (c g1:Int) (v:UInt8) (w:UInt32) (o:Bool) {x:AV} {al:List Int} (hax:Sl 1 (rows al) x) (hal:al.length<1000000) (hrd:eL (bU l) i 0 24 true=some (.agg [a8 k,aI u,a8 bh,a8 aQ,aG aP,a8 aW,aI aY,a8 bc,aG ba,a8 bf,aI bg,aI au,a8 az,aG ay,a8 ax,aI aw,a8 aC,aG aA,x,aI c,aI g1,a8 v,aG w,aB o]))
 (hlook : ∀g:dk,g rk=some (bw sa)→da env.P g 102 (some (.mp rk)) (some (a8 k)) false=some (QO fi fd,[])) (his:m4 ⟨k,u,(⟨bh,⟨aQ,aP,aW⟩,aY,⟨⟨⟨bc,ba,bf⟩,bg⟩,au⟩,⟨⟨az,ay,ax⟩,aw⟩,⟨aC,aA⟩,al⟩:bG),c,g1,v,w,o⟩=true) {ft:Bool}
 (hfit : ∀H',KZ H0 H' rb rs ru rk xh xr us0 qs gr0 b recs →∃H'',bV env (dep+1) (.fn fi) [.ptr rb 0 0,.agg [a8 k,aI u,a8 bh,a8 aQ,aG aP,a8 aW,aI aY,a8 bc,aG ba,a8 bf,aI bg,aI au,a8 az,aG ay,a8 ax,aI aw,a8 aC,aG aA,x,aI c,aI g1,a8 v,aG w,aB o]] H'=some (aB ft,H'')∧cE H' H'')
 (hdo:ft=true →∀H',KZ H0 H' rb rs ru rk xh xr us0 qs gr0 b recs →∃H'' xh',bV env (dep+1) (.fn fd) [.ptr rb 0 0,.agg [a8 k,aI u,a8 bh,a8 aQ,aG aP,a8 aW,aI aY,a8 bc,aG ba,a8 bf,aI bg,aI au,a8 az,aG ay,a8 ax,aI aw,a8 aC,aG aA,x,aI c,aI g1,a8 v,aG w,aB o]] H'=some (.v (.tuple #[]),H'')∧jr H'' rb rs ru xh' xr us0 qs gr0 b'∧K0 H' H'' rb rs ru xh xh')
 (hno:ft=false →∀H',cE H0 H'→Q (.tup [.v (.pointer none),.v (.bool false)]) H')
 (hyes:ft=true →∀H' xh' xr',KZ H0 H' rb rs ru rk xh' xr' us0 qs gr0 b' (recs++[(⟨k,u,(⟨bh,⟨aQ,aP,aW⟩,aY,⟨⟨⟨bc,ba,bf⟩,bg⟩,au⟩,⟨⟨az,ay,ax⟩,aw⟩,⟨aC,aA⟩,al⟩:bG),c,g1,v,w,o⟩,q0 x)])→bT env Tryz.f35 (dep+1) iE [(28,aI ((i:Int)+1)),(6,.ptr rb 0 0),(7,.mp rk),(26,x26),(27,aI l.length)] H' Q) :
 bT env Tryz.f35 (dep+1) iE [(28,aI i),(6,.ptr rb 0 0),(7,.mp rk),(26,x26),(27,aI l.length)] H Q:=by
 have hF:=hI.g.fr
 have e3:=IntWalk.i64_in ((i:Int)+1) (by omega)
 have hlt':(i:Int)<l.length:=by omega
 have hC:=Ax k u bh aQ aP aW aY bc ba bf bg au az ay ax aw aC aA c g1 v w o hax hal
 rw[his]at hC
 have hg1 : ∀b1:bN,cE H ((⟨dep+1,9,H.gen (dep+1) 9,0⟩,some b1) :: H):=fun b1=>cE.cons hF _ _ _
 have hI1:=fun b1=>hI.grow (hg1 b1)
 have hkd:=hI.kd
 have lk:(H.get rk).isSome=true:=by rw[hkd];rfl
 refine qe _ _ _ _ _ _ _ _ fun g=>?_
 simp[ah,ai,ae,af,ad, *,om,hx.r,hx.idx,hax.r,QO]
 refine k6 hm1 (hfit _ (hI1 _)) fun H4 hG=>?_
 have hI4:=(hI1 _).grow hG
 have hb9:=hG.old ⟨dep+1,9,H.gen (dep+1) 9,0⟩ _ (by simp;rfl)
 have hkd4:=hI4.kd
 cases ft with
 | false =>
  have hfin:=hno rfl _ hI4.g
  simp
  exact hfin
 | true =>
  have hl4:=hlook _ hkd4
  obtain⟨H5,xh',e1,e2,e4⟩:=hdo rfl H4 hI4
  have hI5:=hI4.did e2 e4
  have b9:=(e4.old _ _ hb9 (fun e=>absurd (congrArg Ref.t e) (by rw[hI.tt.1];simp)) (fun e=>absurd (congrArg Ref.t e) (by rw[hI.tt.2.1];simp)) (fun e=>absurd (congrArg Ref.t e) (by rw[hI.tt.2.2.1];simp)) (fun e=>absurd (hI.bk.t43 _ e) (by simp))).1
  obtain⟨xu,xq,yu,yq,wu,wq,f1,f2,f3,f4,f5⟩:=e2.box
  have c4:=f4.s.cells
  have c5:=f5.s.cells
  have c8:xh'.cells=[xh']∧xh'.one=true:=by obtain⟨_,hs⟩:=oM e2.dZ;exact hs.cells
  have hF5:=e4.fr
  have l5:(H5.get rb).isSome=true:=by rw[f1];rfl
  have l9:(H5.get ⟨dep+1,9,H.gen (dep+1) 9,0⟩).isSome=true:=by rw[b9];rfl
  obtain⟨y,hty,hy,hT⟩:=Ni k u bh aQ aP aW aY bc ba bf bg au az ay ax aw aC aA c g1 v w o hax hal
  rw[←hty]at hyes
  have hbx : ∀(xr':AV)(H':ab),H'.get rb=some ⟨10,[.agg [xu,xq,aI gr0,yu,yq,aI b'.gr,xr',.mp rs,.mp ru,xh']],false,false⟩ →∀xu xq yu yq,H5.get rb=some ⟨10,[.agg [xu,xq,aI gr0,yu,yq,aI b'.gr,xr,.mp rs,.mp ru,xh']],false,false⟩→H'.get rb=some ⟨10,[.agg [xu,xq,aI gr0,yu,yq,aI b'.gr,xr',.mp rs,.mp ru,xh']],false,false⟩:=by
   intro xr' H' h xu' xq' yu' yq' h'
   rw[f1]at h'
   simp only[Option.some.injEq,bN.mk.injEq,List.cons.injEq,AV.agg.injEq,and_true,true_and]at h'
   obtain⟨rfl,rfl,rfl,rfl⟩:=h'
   exact h
  have hro:=hI5.row
  have h62:=fun r e=>(hI5.t62 r e).1
  have c9:=e2.one
  have hel:(bU recs).length=recs.length:=kW recs
  have hQ : ∀(H':ab)(xr':AV),Fr H'→Own 24 (bU recs++[.agg [a8 k,aI u,a8 bh,a8 aQ,aG aP,a8 aW,aI aY,a8 bc,aG ba,a8 bf,aI bg,aI au,a8 az,aG ay,a8 ax,aI aw,a8 aC,aG aA,y,aI c,aI g1,a8 v,aG w,aB o]]) H' xr'→(∀r,xr'.at?=some r→r.t=62) →
   H'.get rb=some ⟨10,[.agg [xu,xq,aI gr0,yu,yq,aI b'.gr,xr',.mp rs,.mp ru,xh']],false,false⟩→(∀q c,H5.get q=some c→xr'.at?≠some q∧(q≠rb→xr.at?≠some q→H'.get q=some c)) →
   bT env Tryz.f35 (dep+1) iE [(28,aI ((i:Int)+1)),(6,.ptr rb 0 0),(7,.mp rk),(26,x26),(27,aI l.length)] H' Q :=
   fun H' xr' a1 a2 a3 a5 a6=>hyes rfl _ _ _ (hI5.put a1 (by rw[bU,List.map_append];exact a2) a3 (hbx _ _ a5) a6)
  clear hyes hbx hno hfit hdo hlook hI hI1 hI4 hI5 e2 e4 f4 f5 hC his hg1 hkd hkd4 hrd hty
  generalize bU recs=eo at *
  generalize recs.length=nh at *
  simp[hb9,hl4,QO]
  refine BO hm2 e1 ?_
  clear e1 hl4 hb9 hG
  revert hQ
  rcases hro with ⟨rfl,rfl⟩ | ⟨r,rfl,h8⟩
  ·clear hel hrl nh h62
   simp[ah,ai,ae,af,ad, *,b9,f1,hT,hax.r,hy.r]
   intro hQ
   refine hQ _ (.cM ⟨dep+1,62,H5.gen (dep+1) 62,0⟩ 0 1 none) ?_ (.inr ⟨⟨dep+1,62,H5.gen (dep+1) 62,0⟩,rfl,?_⟩) (fun r hr=>by cases hr;rfl) ?_ fun q cc hq=>⟨?_,fun n1=>?_⟩
   ·clear hQ;exact by simp(maxDischargeDepth:=12) [ab.get_put,aq,an,Fr.nil,aD,ah,ai,ae,af,ar,ao,ad, *]
   ·clear hQ;exact by simp(maxDischargeDepth:=12) [ab.get_put,aq,an,Fr.nil,aD,ah,ai,ae,af,ar,ao,ad, *]
   ·clear hQ;exact by simp(maxDischargeDepth:=12) [ab.get_put,aq,an,Fr.nil,aD,ah,ai,ae,af,ar,ao,ad, *]
   ·clear hQ
    have lq:(H5.get q).isSome=true:=by rw[hq];rfl
    simp[AV.at?,ah hF5 lq]
   ·clear hQ
    have lq:(H5.get q).isSome=true:=by rw[hq];rfl
    simp[ah hF5 lq,ab.get_put,n1,fun e=>n1 (Eq.symm e),hq]
  ·have e62:=h62 r rfl
   clear h62
   obtain⟨rd,rt,rg,rk'⟩:=r
   simp only at e62
   subst e62
   have f6:mN 24 160 nh true none (some ⟨24,eo,true,false⟩) (some [.agg [a8 k,aI u,a8 bh,a8 aQ,aG aP,a8 aW,aI aY,a8 bc,aG ba,a8 bf,aI bg,aI au,a8 az,aG ay,a8 ax,aI aw,a8 aC,aG aA,y,aI c,aI g1,a8 v,aG w,aB o]]):=by
    simp;omega
   have l8:(H5.get ⟨rd,62,rg,rk'⟩).isSome=true:=by rw[h8];rfl
   have nr1:(⟨rd,62,rg,rk'⟩:Ref)≠rb:=by
    intro e;rw[e,f1]at h8;simp at h8
   have nr1':=nr1.symm
   simp[ah,ai,ae,af,ad, *,b9,f1,hT,hax.r,hy.r]
   intro hQ
   refine hQ _ (.cM ⟨rd,62,H5.gen rd 62,0⟩ 0 (nh+1) none) ?_ (.inr ⟨⟨rd,62,H5.gen rd 62,0⟩,by simp[hel],?_⟩) (fun r hr=>by cases hr;rfl) ?_ fun q cc hq=>⟨?_,fun n1 n4=>?_⟩
   ·clear hQ;exact by simp(maxDischargeDepth:=12) [ab.get_put,aq,an,Fr.nil,aD,ah,ai,ae,af,ar,ao,ad, *]
   ·clear hQ;exact by simp(maxDischargeDepth:=12) [ab.get_put,aq,an,Fr.nil,aD,ah,ai,ae,af,ar,ao,ad, *]
   ·clear hQ;exact by simp(maxDischargeDepth:=12) [ab.get_put,aq,an,Fr.nil,aD,ah,ai,ae,af,ar,ao,ad, *]
   ·clear hQ
    have lq:(H5.get q).isSome=true:=by rw[hq];rfl
    simp[AV.at?,ah hF5 lq]
   ·clear hQ
    have lq:(H5.get q).isSome=true:=by rw[hq];rfl
    simp[ah hF5 lq,ab.get_put,n1,fun e=>n1 (Eq.symm e),hq]
    all_goals (intro e;exact n4 (by first | exact e.symm | (rw[e];rfl)))
end
end Go.Proofs.YtdbiffjdomokfaaGreat
