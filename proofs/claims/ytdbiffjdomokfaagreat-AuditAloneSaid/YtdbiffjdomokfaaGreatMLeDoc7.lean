/-
  What a list of operations tells: the history. No statement of a seat is proved here.
-/
import Derived.Test.YtdbiffjdomokfaaGreatLeDoc5
set_option linter.unusedVariables false
set_option linter.unusedSimpArgs false
set_option linter.unusedSectionVars false
set_option linter.unnecessarySimpa false
set_option maxRecDepth 100000
namespace Go.Proofs.YtdbiffjdomokfaaGreat
open Go.Ab
attribute [local simp] bD bp bl bC bB cV lj bP bt bA dc db cg bR aV cm List.take_of_length_le
def tT(ents:List (eE × AV))(l:List eE):List (eE × AV):=l.foldl (fun e i=>fJ i (aB true) e) ents
@[simp] theorem Un(ents:List (eE × AV)):tT ents []=ents:=id rfl
@[simp] theorem Iz(ents:List (eE × AV))(i:eE)(l:List eE):tT ents (i :: l)=tT (fJ i (aB true) ents) l:=id rfl
theorem GH{K:Type}[DecidableEq K](k:K)(x:AV) : ∀l:List (K × AV),(fJ k x l).length≤l.length+1
 | []=>by simp[fJ]
 | p :: l=>by
  unfold fJ
  split
  ·simp
  ·have:=GH k x l;simp;omega
theorem xN : ∀(l:List eE)(ents:List (eE × AV)),(tT ents l).length≤ents.length+l.length
 | [],ents=>by simp
 | i :: l,ents=>by
  have:=xN l (fJ i (aB true) ents)
  have h2:=GH i (aB true) ents
  simp
  omega
theorem Em{i:eE} : ∀ {ents:List (eE × AV)},pY ents→pY (fJ i (aB true) ents)
 | [],h=>by intro p hp;simp[fJ]at hp;rw[hp]
 | q :: l,h=>by
  intro p hp
  unfold fJ at hp
  split at hp
  ·rcases List.mem_cons.1 hp with rfl | hp
   ·rfl
   ·exact h p (List.mem_cons_of_mem _ hp)
  ·rcases List.mem_cons.1 hp with rfl | hp
   ·exact h _ List.mem_cons_self
   ·exact Em (fun p hp=>h p (List.mem_cons_of_mem _ hp)) p hp
def im:List (bG × AV)→List (eE × AV)→List (bG × AV)→Option (List (bG × AV) × List (eE × AV))
 | ops,ents,[]=>some (ops,ents)
 | ops,ents,p :: l=>if mT p.1=true∧tH ops ents p.1=0 then im (ops++[p]) (if p.1.kind=1 then tT ents (eD p.1.s) else ents) l else none
structure Bi (H0 H:ab) (rh rm:Ref) (ops:List (bG × AV)) (ents:List (eE × AV)):Prop where
 fr:Fr H
 box : ∃xo,H.get rh=some ⟨2,[.agg [xo,.mp rm]],false,false⟩∧((xo=cP∧ops=[]) ∨∃g,xo = .cM ⟨1,34,g,0⟩ 0 ops.length none∧H.get ⟨1,34,g,0⟩=some ⟨17,eV ops,true,false⟩)
 map:H.get rm=some (bw (cH uL ents))
 old : ∀q b,q.d=0→H0.get q=some b→H.get q=some b
 ok:pY ents
theorem Bi.dZ{H0 H:ab}{rh rm:Ref}{ops:List (bG × AV)}{ents:List (eE × AV)}(h:Bi H0 H rh rm ops ents):vT H rh ops ents:=by
 obtain⟨xo,h1,h2⟩:=h.box
 rcases h2 with ⟨rfl,rfl⟩ | ⟨g,rfl,h2⟩
 ·exact⟨cP,cP,rm,h1,iw.of (.inl ⟨rfl,rfl⟩) _,h.map⟩
 ·exact⟨_,.cw 17 (eV ops) none,rm,h1,.inr ⟨_,none,false,by rw[sR],h2,rfl,Nat.le_refl _⟩,h.map⟩
theorem Bi.grow{H0 H H':ab}{rh rm:Ref}{ops:List (bG × AV)}{ents:List (eE × AV)}(h:Bi H0 H rh rm ops ents)(g:cE H H'):Bi H0 H' rh rm ops ents:=by
 obtain⟨xo,h1,h2⟩:=h.box
 refine⟨g.fr,⟨xo,g.old _ _ h1,?_⟩,g.old _ _ h.map,fun q b hq hb=>g.old _ _ (h.old q b hq hb),h.ok⟩
 rcases h2 with h2 | ⟨g',e,h2⟩
 ·exact .inl h2
 ·exact .inr ⟨g',e,g.old _ _ h2⟩
section
variable{l:List (bG × AV)}{x12:AV}(hx:Sl 17 (eV l) x12)(hall : ∀p∈l,Jm p∧p.1.l.length<1000000)(hl:l.length<10000){rh rm:Ref}(th:rh.t=11)(tm:rm.t=9)(dh:rh.d=1)(dm:rm.d=1){H0:ab}{Q:AV→ab→Prop}
include hx hall hl th tm dh dm
theorem Oy{ops:List (bG × AV)}{ns:List eE}(hn:ns.length<100000){j:Int}{entsF:List (eE × AV)}
 (hF : ∀H,Bi H0 H rh rm ops entsF→bT env Tryz.f114 (0+1) lH [(4,.ptr rh 0 0),(14,aI (IntKind.i64.wrap (j+1))),(12,x12),(13,aI l.length)] H Q) :
 ∀(s:List eE)(k:Nat)(i:Int)(ents:List (eE × AV)) (H:ab),ns.drop k=s→k≤ns.length→i=k→Bi H0 H rh rm ops ents→tT ents s=entsF →
 bT env Tryz.f114 (0+1) nT [(44,aI i),(4,.ptr rh 0 0),(42,.cw 4 (lb ns) none),(12,x12),(13,aI l.length),(14,aI j),(43,aI ns.length)] H Q:=by
 have hy:Sl 4 (lb ns) (.cw 4 (lb ns) none):=Sl.mk _ _
 intro s
 induction s with
 | nil =>
  rintro k i ents H hs hk rfl hI he
  obtain rfl:=drop_nil hs hk
  simp at he
  subst he
  have hfin:=hF H hI
  refine xZ _ _ _ _ _ _ _ _ _ _ fun g=>?_
  clear hF hI hall
  simp[ah,ai,ae,af,ad, *,tZ]
  all_goals exact hfin
 | cons a s ih =>
  rintro k i ents H hs hk rfl hI he
  obtain⟨hlt,hg,hs',hg'⟩:=drop_cons hs
  have e3:=IntWalk.i64_in ((k:Int)+1) (by omega)
  obtain⟨⟨a1,a2,a3⟩,a4⟩:=a
  have hrd:eL (lb ns) k 0 4 true=some (.agg [a8 a1,aG a2,a8 a3,aI a4]):=by simp[lb,hg',uL]
  have hlt':(k:Int)<ns.length:=by omega
  obtain⟨hFr,⟨xo,h1,h2⟩,h3,h4,h5⟩:=hI
  have l1:(H.get rh).isSome=true:=by rw[h1];rfl
  have l3:(H.get rm).isSome=true:=by rw[h3];rfl
  have hup:=fun(H':ab)(h:H'.get rm=some (bw (cH uL ents)))=>qa KF HG (t:=196) (et:=4) (by kernel_rfl) h ⟨⟨a1,a2,a3⟩,a4⟩ (aB true)
  have n1:rh≠rm:=by rintro rfl;omega
  have n2:=n1.symm
  have hih:=fun H' h=>ih (k+1) ((k:Int)+1) (fJ ⟨⟨a1,a2,a3⟩,a4⟩ (aB true) ents) H' hs' (by omega) (by simp) h (by simpa using he)
  have hst : ∀(H1:ab),Fr H1→H1.get rh=some ⟨2,[.agg [xo,.mp rm]],false,false⟩→H1.get rm=some (bw (cH uL (fJ ⟨⟨a1,a2,a3⟩,a4⟩ (aB true) ents)))→(∀q,q≠rm→(H.get q).isSome=true→H1.get q=H.get q)→Bi H0 H1 rh rm ops (fJ ⟨⟨a1,a2,a3⟩,a4⟩ (aB true) ents):=by
   intro H1 f1 f2 f3 f4
   refine⟨f1,⟨xo,f2,?_⟩,f3,fun q b hq hb=>?_,Em h5⟩
   ·rcases h2 with h2 | ⟨g,e,h2⟩
    ·exact .inl h2
    ·exact .inr ⟨g,e,by rw[f4 _ (fun e=>by have h:=congrArg Ref.t e;rw[tm]at h;exact absurd h (by simp)) (by rw[h2];rfl)];exact h2⟩
   ·rw[f4 q (by rintro rfl;omega) (by rw[h4 q b hq hb];rfl)];exact h4 q b hq hb
  have hiK:(uL ⟨⟨a1,a2,a3⟩,a4⟩) = .agg [a8 a1,aG a2,a8 a3,aI a4]:=rfl
  rw[hiK]at hup
  clear ih hF hall h4 h2 hs hs' hg hg' he
  refine xZ _ _ _ _ _ _ _ _ _ _ fun g=>?_
  simp[ah,ai,ae,af,ad, *,tZ,hy.r,hy.idx]
  refine hih _ (hst _ ?_ ?_ ?_ fun q hq hlq=>?_)
  ·exact by simp(maxDischargeDepth:=12) [ab.get_put,aq,an,Fr.nil,aD,ah,ai,ae,af,ar,ao,ad, *]
  ·exact by simp(maxDischargeDepth:=12) [ab.get_put,aq,an,Fr.nil,aD,ah,ai,ae,af,ar,ao,ad, *]
  ·exact by simp(maxDischargeDepth:=12) [ab.get_put,aq,an,Fr.nil,aD,ah,ai,ae,af,ar,ao,ad, *]
  ·simp[ah hFr hlq,ab.get_put,hq]
def Gc(H0:ab)(rh rm:Ref)(n:Nat)(o:Option (List (bG × AV) × List (eE × AV)))(y:AV)(H:ab):Prop :=
 Fr H∧(∀q b,q.d=0→H0.get q=some b→H.get q=some b)∧match o with
  | none=>y = .tup [.v (.pointer none),aB false]
  | some (ops,ents)=>y = .tup [.ptr rh 0 0,aB true]∧Bi H0 H rh rm ops ents∧ops.length≤n∧ents.length≤64 * ops.length ∧∀p∈ops,Jm p
theorem OO : ∀(s:List (bG × AV)) (k:Nat) (i:Int) (ops:List (bG × AV)) (ents:List (eE × AV)) (H:ab),l.drop k=s→k≤l.length→i=k→ops.length≤k→ents.length≤64 * ops.length→(∀p∈ops,Jm p)→Bi H0 H rh rm ops ents →
 (∀y H',Gc H0 rh rm l.length (im ops ents s) y H'→Q y H') →
 bT env Tryz.f114 (0+1) lH [(4,.ptr rh 0 0),(14,aI i),(12,x12),(13,aI l.length)] H Q:=by
 intro s
 induction s with
 | nil =>
  rintro k i ops ents H hs hk rfl ho he hok hI hQ
  obtain rfl:=drop_nil hs hk
  have hfin:=hQ _ H ⟨hI.fr,hI.old,rfl,hI,ho,he,hok⟩
  refine Aw _ _ _ _ _ _ _ fun g=>?_
  clear hQ hI hall
  simp[ah,ai,ae,af,ad, *,rP]
  all_goals exact hfin
 | cons p s ih =>
  rintro k i ops ents H hs hk rfl ho he hok hI hQ
  obtain⟨hlt,hg,hs',hg'⟩:=drop_cons hs
  have e3:=IntWalk.i64_in ((k:Int)+1) (by omega)
  have hp:=hall p (hg ▸ List.getElem_mem hlt)
  obtain⟨⟨bh,⟨aQ,aP,aW⟩,aY,⟨⟨⟨bc,ba,bf⟩,bg⟩,au⟩,⟨⟨az,ay,ax⟩,aw⟩,⟨aC,aA⟩,al⟩,x⟩:=p
  obtain⟨⟨hax,hal'⟩,hal⟩:=hp
  simp only at hax hal hal'
  have hrd:eL (eV l) k 0 17 true=some (.agg [a8 bh,a8 aQ,aG aP,a8 aW,aI aY,a8 bc,aG ba,a8 bf,aI bg,aI au,a8 az,aG ay,a8 ax,aI aw,a8 aC,aG aA,x]):=by simp[eV,hg',FQ]
  have hlt':(k:Int)<l.length:=by omega
  have hC:=lO bh aQ aP aW aY bc ba bf bg au az ay ax aw aC aA hax hal'
  have hH:=hI.dZ
  have hFr:=hI.fr
  have hg1 : ∀b1:bN,cE H ((⟨1,6,H.gen 1 6,0⟩,some b1) :: H):=fun b1=>cE.cons hFr _ _ _
  have hcell : ∀ {b:bG × AV},(eV l).length=l.length:=sR l
  refine Aw _ _ _ _ _ _ _ fun g=>?_
  have hno : ¬(mT (⟨bh,⟨aQ,aP,aW⟩,aY,⟨⟨⟨bc,ba,bf⟩,bg⟩,au⟩,⟨⟨az,ay,ax⟩,aw⟩,⟨aC,aA⟩,al⟩:bG)=true∧tH ops ents (⟨bh,⟨aQ,aP,aW⟩,aY,⟨⟨⟨bc,ba,bf⟩,bg⟩,au⟩,⟨⟨az,ay,ax⟩,aw⟩,⟨aC,aA⟩,al⟩:bG)=0)→Q (.tup [.v (.pointer none),aB false]) H→True:=fun _ _=>trivial
  clear hno hcell
  cases hb:mT (⟨bh,⟨aQ,aP,aW⟩,aY,⟨⟨⟨bc,ba,bf⟩,bg⟩,au⟩,⟨⟨az,ay,ax⟩,aw⟩,⟨aC,aA⟩,al⟩:bG) with
  | false =>
   have hd:im ops ents (((⟨bh,⟨aQ,aP,aW⟩,aY,⟨⟨⟨bc,ba,bf⟩,bg⟩,au⟩,⟨⟨az,ay,ax⟩,aw⟩,⟨aC,aA⟩,al⟩:bG),x) :: s)=none:=by simp[im,hb]
   rw[hd]at hQ
   have hfin:=fun b1=>hQ (.tup [.v (.pointer none),aB false]) _ ⟨(hg1 b1).fr,fun q b hq hb=>(hg1 b1).old _ _ (hI.old q b hq hb),rfl⟩
   clear hQ ih hI hall hH
   simp[ah,ai,ae,af,ad, *,rP,hx.r,hx.idx,hax.r]
   all_goals exact hfin _
  | true =>
   have hfits:=KM 1 (hg1 ⟨17,[.agg [a8 bh,a8 aQ,aG aP,a8 aW,aI aY,a8 bc,aG ba,a8 bf,aI bg,aI au,a8 az,aG ay,a8 ax,aI aw,a8 aC,aG aA,x]],false,false⟩).fr (hH.grow (hg1 _)) hI.ok (by omega) hok (by omega) bh aQ aP aW aY bc ba bf bg au az ay ax aw aC aA hax hal hb
   have hsp:=pf hb
   simp only at hsp
   have hN:=Fm bc ba bf bg au hsp
   simp[ah,ai,ae,af,ad, *,rP,hx.r,hx.idx,hax.r]
   refine k6 (by kernel_rfl) hfits fun H4 hG4=>?_
   have hI4:=(hI.grow (hg1 _)).grow hG4
   by_cases hd0:tH ops ents (⟨bh,⟨aQ,aP,aW⟩,aY,⟨⟨⟨bc,ba,bf⟩,bg⟩,au⟩,⟨⟨az,ay,ax⟩,aw⟩,⟨aC,aA⟩,al⟩:bG)=0
   ·have hd:im ops ents (((⟨bh,⟨aQ,aP,aW⟩,aY,⟨⟨⟨bc,ba,bf⟩,bg⟩,au⟩,⟨⟨az,ay,ax⟩,aw⟩,⟨aC,aA⟩,al⟩:bG),x) :: s)=im (ops++[((⟨bh,⟨aQ,aP,aW⟩,aY,⟨⟨⟨bc,ba,bf⟩,bg⟩,au⟩,⟨⟨az,ay,ax⟩,aw⟩,⟨aC,aA⟩,al⟩:bG),x)]) (if bh=1 then tT ents (eD ⟨⟨⟨bc,ba,bf⟩,bg⟩,au⟩) else ents) s:=by
     show(if _ then _ else _)=_
     rw[if_pos ⟨hb,hd0⟩]
    rw[hd]at hQ
    have hnl:=zR hsp
    have hnl2:(eD ⟨⟨⟨bc,ba,bf⟩,bg⟩,au⟩).length≤64:=by
     have hn:=ko hsp
     simp only at hn
     simp[eD]
     omega
    have hal2:=xN (eD ⟨⟨⟨bc,ba,bf⟩,bg⟩,au⟩) ents
    have hok' : ∀p∈ops++[((⟨bh,⟨aQ,aP,aW⟩,aY,⟨⟨⟨bc,ba,bf⟩,bg⟩,au⟩,⟨⟨az,ay,ax⟩,aw⟩,⟨aC,aA⟩,al⟩:bG),x)],Jm p:=by
     intro p hp
     rcases List.mem_append.1 hp with hp | hp
     ·exact hok p hp
     ·rw[List.mem_singleton]at hp;subst hp;exact⟨hax,hal'⟩
    obtain⟨hF4,⟨xo,h1,h2⟩,h3,h4,h5⟩:=hI4
    have hb6:=hG4.old ⟨1,6,H.gen 1 6,0⟩ _ (by simp;rfl)
    have lh:(H4.get rh).isSome=true:=by rw[h1];rfl
    have lm:(H4.get rm).isSome=true:=by rw[h3];rfl
    have n34 : ∀g,(⟨1,34,g,0⟩:Ref)≠rh:=fun g e=>by have h:=congrArg Ref.t e;rw[th]at h;exact absurd h (by simp)
    have n34' : ∀g,rh≠(⟨1,34,g,0⟩:Ref):=fun g e=>n34 g e.symm
    have m34 : ∀g,(⟨1,34,g,0⟩:Ref)≠rm:=fun g e=>by have h:=congrArg Ref.t e;rw[tm]at h;exact absurd h (by simp)
    have m34' : ∀g,rm≠(⟨1,34,g,0⟩:Ref):=fun g e=>m34 g e.symm
    have nhm:rh≠rm:=by rintro rfl;omega
    have nmh:=nhm.symm
    have n6:rh≠⟨1,6,H.gen 1 6,0⟩:=fun e=>by have h:=congrArg Ref.t e;rw[th]at h;exact absurd h (by simp)
    have n6':=n6.symm
    have hst : ∀(g m:Nat)(H1:ab),m=ops.length+1→Fr H1→H1.get rh=some ⟨2,[.agg [.cM ⟨1,34,g,0⟩ 0 m none,.mp rm]],false,false⟩→H1.get ⟨1,34,g,0⟩=some ⟨17,eV ops++[.agg [a8 bh,a8 aQ,aG aP,a8 aW,aI aY,a8 bc,aG ba,a8 bf,aI bg,aI au,a8 az,aG ay,a8 ax,aI aw,a8 aC,aG aA,x]],true,false⟩→H1.get rm=some (bw (cH uL ents)) →
     (∀q,q.d=0→(H4.get q).isSome=true→H1.get q=H4.get q)→Bi H0 H1 rh rm (ops++[((⟨bh,⟨aQ,aP,aW⟩,aY,⟨⟨⟨bc,ba,bf⟩,bg⟩,au⟩,⟨⟨az,ay,ax⟩,aw⟩,⟨aC,aA⟩,al⟩:bG),x)]) ents:=by
     intro g m H1 hm f1 f2 f3 f4 f5
     subst hm
     refine⟨f1,⟨_,f2,.inr ⟨g,by simp,by rw[f3];simp[eV,FQ]⟩⟩,f4,fun q b hq hb=>?_,h5⟩
     rw[f5 q hq (by rw[h4 q b hq hb];rfl)]
     exact h4 q b hq hb
    have hcont : ∀(H7:ab),Bi H0 H7 rh rm (ops++[((⟨bh,⟨aQ,aP,aW⟩,aY,⟨⟨⟨bc,ba,bf⟩,bg⟩,au⟩,⟨⟨az,ay,ax⟩,aw⟩,⟨aC,aA⟩,al⟩:bG),x)]) ents→(if bh=1 then bT env Tryz.f114 (0+1) nT [(44,aI 0),(4,.ptr rh 0 0),(42,.cw 4 (lb (eD ⟨⟨⟨bc,ba,bf⟩,bg⟩,au⟩)) none),(12,x12),(13,aI l.length),(14,aI k),(43,aI (eD ⟨⟨⟨bc,ba,bf⟩,bg⟩,au⟩).length)] H7 Q
     else bT env Tryz.f114 (0+1) lH [(4,.ptr rh 0 0),(14,aI ((k:Int)+1)),(12,x12),(13,aI l.length)] H7 Q):=by
     intro H7 hI7
     split
     ·rename_i hk1
      rw[if_pos hk1]at hQ
      exact Oy hx hall hl th tm dh dm hnl (fun H' hI'=>by rw[e3];exact ih (k+1) _ _ _ H' hs' (by omega) (by simp) (by simp;omega) (by simp;omega) hok' hI' hQ) _ 0 0 ents H7 rfl (by omega) rfl hI7 rfl
     ·rename_i hk1
      rw[if_neg hk1]at hQ
      exact ih (k+1) _ _ _ H7 hs' (by omega) (by simp) (by simp;omega) (by simp;omega) hok' hI7 hQ
    clear hall hQ ih hI hH hfits hC hok hok' hal2 hs hs' hg hg' h4 h5 hG4 hrd hd
    rcases h2 with ⟨rfl,rfl⟩ | ⟨g,rfl,h2⟩
    ·have hst':=hst (H4.gen 1 34) 1
     clear hst
     have heo:eV []=[]:=rfl
     by_cases hk1:bh=1
     ·subst hk1
      have hc:=fun H7 h=>hcont H7 h
      simp only[if_true]at hc
      clear hcont
      simp[ah,ai,ae,af,ad, *,hax.r]
      refine hc _ (hst' _ rfl ?_ ?_ ?_ ?_ fun q hq hlq=>?_)
      ·exact by simp(maxDischargeDepth:=12) [ab.get_put,aq,an,Fr.nil,aD,ah,ai,ae,af,ar,ao,ad, *]
      ·exact by simp(maxDischargeDepth:=12) [ab.get_put,aq,an,Fr.nil,aD,ah,ai,ae,af,ar,ao,ad, *]
      ·exact by simp(maxDischargeDepth:=12) [ab.get_put,aq,an,Fr.nil,aD,ah,ai,ae,af,ar,ao,ad, *]
      ·exact by simp(maxDischargeDepth:=12) [ab.get_put,aq,an,Fr.nil,aD,ah,ai,ae,af,ar,ao,ad, *]
      ·have nq:q≠rh:=by rintro rfl;omega
       have nqg : ∀g,q≠(⟨1,34,g,0⟩:Ref):=fun g e=>by have h:=congrArg Ref.d e;rw[hq]at h;exact absurd h (by simp)
       simp[ah hF4 hlq,ab.get_put,nq,nqg,nq.symm,fun g=>(nqg g).symm]
     ·have hc:=fun H7 h=>hcont H7 h
      simp only[hk1,if_false]at hc
      clear hcont
      simp[ah,ai,ae,af,ad, *,hax.r]
      refine hc _ (hst' _ rfl ?_ ?_ ?_ ?_ fun q hq hlq=>?_)
      ·exact by simp(maxDischargeDepth:=12) [ab.get_put,aq,an,Fr.nil,aD,ah,ai,ae,af,ar,ao,ad, *]
      ·exact by simp(maxDischargeDepth:=12) [ab.get_put,aq,an,Fr.nil,aD,ah,ai,ae,af,ar,ao,ad, *]
      ·exact by simp(maxDischargeDepth:=12) [ab.get_put,aq,an,Fr.nil,aD,ah,ai,ae,af,ar,ao,ad, *]
      ·exact by simp(maxDischargeDepth:=12) [ab.get_put,aq,an,Fr.nil,aD,ah,ai,ae,af,ar,ao,ad, *]
      ·have nq:q≠rh:=by rintro rfl;omega
       have nqg : ∀g,q≠(⟨1,34,g,0⟩:Ref):=fun g e=>by have h:=congrArg Ref.d e;rw[hq]at h;exact absurd h (by simp)
       simp[ah hF4 hlq,ab.get_put,nq,nqg,nq.symm,fun g=>(nqg g).symm]
    ·have hst':=hst (H4.gen 1 34) (ops.length+1)
     clear hst
     have l34:(H4.get ⟨1,34,g,0⟩).isSome=true:=by rw[h2];rfl
     have f4:mN 17 112 ops.length true none (some ⟨17,eV ops,true,false⟩) (some [.agg [a8 bh,a8 aQ,aG aP,a8 aW,aI aY,a8 bc,aG ba,a8 bf,aI bg,aI au,a8 az,aG ay,a8 ax,aI aw,a8 aC,aG aA,x]]):=by
      simp;omega
     by_cases hk1:bh=1
     ·subst hk1
      have hc:=fun H7 h=>hcont H7 h
      simp only[if_true]at hc
      clear hcont
      simp[ah,ai,ae,af,ad, *,hax.r]
      refine hc _ (hst' _ rfl ?_ ?_ ?_ ?_ fun q hq hlq=>?_)
      ·exact by simp(maxDischargeDepth:=12) [ab.get_put,aq,an,Fr.nil,aD,ah,ai,ae,af,ar,ao,ad, *]
      ·exact by simp(maxDischargeDepth:=12) [ab.get_put,aq,an,Fr.nil,aD,ah,ai,ae,af,ar,ao,ad, *]
      ·exact by simp(maxDischargeDepth:=12) [ab.get_put,aq,an,Fr.nil,aD,ah,ai,ae,af,ar,ao,ad, *]
      ·exact by simp(maxDischargeDepth:=12) [ab.get_put,aq,an,Fr.nil,aD,ah,ai,ae,af,ar,ao,ad, *]
      ·have nq:q≠rh:=by rintro rfl;omega
       have nqg : ∀g,q≠(⟨1,34,g,0⟩:Ref):=fun g e=>by have h:=congrArg Ref.d e;rw[hq]at h;exact absurd h (by simp)
       simp[ah hF4 hlq,ab.get_put,nq,nqg,nq.symm,fun g=>(nqg g).symm]
     ·have hc:=fun H7 h=>hcont H7 h
      simp only[hk1,if_false]at hc
      clear hcont
      simp[ah,ai,ae,af,ad, *,hax.r]
      refine hc _ (hst' _ rfl ?_ ?_ ?_ ?_ fun q hq hlq=>?_)
      ·exact by simp(maxDischargeDepth:=12) [ab.get_put,aq,an,Fr.nil,aD,ah,ai,ae,af,ar,ao,ad, *]
      ·exact by simp(maxDischargeDepth:=12) [ab.get_put,aq,an,Fr.nil,aD,ah,ai,ae,af,ar,ao,ad, *]
      ·exact by simp(maxDischargeDepth:=12) [ab.get_put,aq,an,Fr.nil,aD,ah,ai,ae,af,ar,ao,ad, *]
      ·exact by simp(maxDischargeDepth:=12) [ab.get_put,aq,an,Fr.nil,aD,ah,ai,ae,af,ar,ao,ad, *]
      ·have nq:q≠rh:=by rintro rfl;omega
       have nqg : ∀g,q≠(⟨1,34,g,0⟩:Ref):=fun g e=>by have h:=congrArg Ref.d e;rw[hq]at h;exact absurd h (by simp)
       simp[ah hF4 hlq,ab.get_put,nq,nqg,nq.symm,fun g=>(nqg g).symm]
   ·have hd:im ops ents (((⟨bh,⟨aQ,aP,aW⟩,aY,⟨⟨⟨bc,ba,bf⟩,bg⟩,au⟩,⟨⟨az,ay,ax⟩,aw⟩,⟨aC,aA⟩,al⟩:bG),x) :: s)=none:=by
     show(if _ then _ else _)=_
     rw[if_neg (fun h=>hd0 h.2)]
    rw[hd]at hQ
    have hfin:=hQ (.tup [.v (.pointer none),aB false]) H4 ⟨hI4.fr,hI4.old,rfl⟩
    simp[hd0]
    all_goals exact hfin
end
end Go.Proofs.YtdbiffjdomokfaaGreat
namespace Go.Proofs.YtdbiffjdomokfaaGreat
open Go.Ab
attribute [local simp] bD bp bl bC bB cV lj bP bt bA dc db cg bR aV cm List.take_of_length_le
@[simp] theorem Xr(r:Ref):(AV.mp r).cells=[.mp r]:=id rfl
@[simp] theorem aaI(r:Ref):(AV.mp r).one=true:=id rfl
section
variable{l:List (bG × AV)}{x0:AV}(hx:Sl 17 (eV l) x0)(hall : ∀p∈l,Jm p∧p.1.l.length<1000000)(hl:l.length<10000)
include hx hall hl
theorem ON{H:ab}(hF:Fr H) : ∃y H',bV env 0 (.fn 114) [x0] H=some (y,H') ∧∃rh rm,Gc H rh rm l.length (im [] [] l) y H':=by
 refine my (Q:=fun y H' =>∃rh rm,Gc H rh rm l.length (im [] [] l) y H') (fn:=Tryz.f114) (c:=wB) (by kernel_rfl) (by kernel_rfl) (by kernel_rfl) (by kernel_rfl) (by kernel_rfl) ?_
 refine K5 _ _ _ _ fun g=>?_
 have hfin:=fun H2 hI=>OO hx hall hl (rh:=⟨1,11,H.gen 1 11,0⟩) (rm:=⟨1,9,H.gen 1 9,0⟩) rfl rfl rfl rfl (H0:=H) (Q:=fun y H' =>∃rh rm,Gc H rh rm l.length (im [] [] l) y H') l 0 0 [] [] H2 rfl (by omega) rfl (by simp) (by simp) (by intro p hp;cases hp) hI (fun y H' h=>⟨_,_,h⟩)
 clear hall
 simp[ah,ai,ae,af,ad, *,E4,hx.r]
 refine hfin _ ⟨?_,⟨cP,?_,.inl ⟨rfl,rfl⟩⟩,?_,fun q b hq hb=>?_,fun p hp=>nomatch hp⟩
 ·exact by simp(maxDischargeDepth:=12) [ab.get_put,aq,an,Fr.nil,aD,ah,ai,ae,af,ar,ao,ad, *]
 ·simp
 ·simp[cH]
 ·have lq:(H.get q).isSome=true:=by rw[hb];rfl
  simp[ah hF lq,hb]
def mA(l:List (bG × AV))(o:bG):Int:=match im [] [] l with
 | none=>8
 | some (ops,ents)=>if mT o then tH ops ents o else 8
theorem Lq(bh:UInt8)(aQ:UInt8)(aP:UInt32)(aW:UInt8)(aY:Int)(bc:UInt8)(ba:UInt32)(bf:UInt8)(bg:Int)(au:Int)(az:UInt8)(ay:UInt32)(ax:UInt8)(aw:Int)(aC:UInt8)(aA:UInt32){x:AV}{al:List Int}(hax:Sl 1 (rows al) x)(hal:al.length<1000000):bj env 94 [x0,.agg [a8 bh,a8 aQ,aG aP,a8 aW,aI aY,a8 bc,aG ba,a8 bf,aI bg,aI au,a8 az,aG ay,a8 ax,aI aw,a8 aC,aG aA,x]]=some (aI (mA l (⟨bh,⟨aQ,aP,aW⟩,aY,⟨⟨⟨bc,ba,bf⟩,bg⟩,au⟩,⟨⟨az,ay,ax⟩,aw⟩,⟨aC,aA⟩,al⟩:bG))):=by
 refine aK (fn:=Tryz.f94) (c:=AP) rfl (by kernel_rfl) (by kernel_rfl) (by kernel_rfl) (by kernel_rfl) ?_;refine Gv _ _ _ _ fun g=>?_
 have hC:=lO bh aQ aP aW aY bc ba bf bg au az ay ax aw aC aA hax (by omega)
 obtain⟨y,H2,h1,rh,rm,hF2,hold,hm⟩:=ON hx hall hl (H:=[(⟨0,3,0,0⟩,some ⟨17,[.agg [a8 bh,a8 aQ,aG aP,a8 aW,aI aY,a8 bc,aG ba,a8 bf,aI bg,aI au,a8 az,aG ay,a8 ax,aI aw,a8 aC,aG aA,x]],false,false⟩)]) (by simp[aq,an,Fr.nil])
 have hb3:=hold ⟨0,3,0,0⟩ _ rfl rfl
 have hw:bo env true (bj env) (bV env 0) [(⟨0,3,0,0⟩,some ⟨17,[.agg [a8 bh,a8 aQ,aG aP,a8 aW,aI aY,a8 bc,aG ba,a8 bf,aI bg,aI au,a8 az,aG ay,a8 ax,aI aw,a8 aC,aG aA,x]],false,false⟩)] ⟨0,10,0,0⟩ (some (.fn (.func 114) [] [])) [x0]=some (y,H2):=by
  rw[Ak (by kernel_rfl)]
  exact h1
 unfold mA
 cases hd:im [] [] l with
 | none =>
  rw[hd]at hm
  dsimp only at hm
  subst hm
  clear hold hall
  simp[ah,ai,ae,af,ad, *,rQ,hx.r,hax.r,hw]
 | some p =>
  obtain⟨ops,ents⟩:=p
  rw[hd]at hm
  dsimp only at hm
  obtain⟨rfl,hI,ho,he,hok⟩:=hm
  clear hold
  cases hb:mT (⟨bh,⟨aQ,aP,aW⟩,aY,⟨⟨⟨bc,ba,bf⟩,bg⟩,au⟩,⟨⟨az,ay,ax⟩,aw⟩,⟨aC,aA⟩,al⟩:bG) with
  | false =>
   clear hall hI
   simp[ah,ai,ae,af,ad, *,rQ,hx.r,hax.r,hw]
  | true =>
   have hf:=KM 0 hF2 hI.dZ hI.ok (by omega) hok (by omega) bh aQ aP aW aY bc ba bf bg au az ay ax aw aC aA hax hal hb
   clear hall hI
   simp[ah,ai,ae,af,ad, *,rQ,hx.r,hax.r,hw]
   refine k6 (by kernel_rfl) hf fun H4 hG=>?_
   simp
end
end Go.Proofs.YtdbiffjdomokfaaGreat
