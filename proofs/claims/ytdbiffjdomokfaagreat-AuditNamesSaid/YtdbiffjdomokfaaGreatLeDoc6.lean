/-
  What a list of operations tells: the history. No statement of a seat is proved here.
-/
import Derived.Test.YtdbiffjdomokfaaGreatLeDoc5
set_option linter.unusedVariables false
set_option linter.unusedSimpArgs false
set_option linter.unusedSectionVars false
set_option linter.unnecessarySimpa false
set_option maxRecDepth 100000
namespace Go.Proofs.YtdbiffjdomokfaaGreat
open Go.Ab
attribute [local simp] bK bw bo bM bL dc kS bU bx bH dJ dI cp bX bh cC List.take_of_length_le
def vZ(ents:List (eY × AV))(l:List eY):List (eY × AV):=l.foldl (fun e i=>lF i (aB true) e) ents
@[simp] theorem RE(ents:List (eY × AV)):vZ ents []=ents:=id rfl
@[simp] theorem PX(ents:List (eY × AV))(i:eY)(l:List eY):vZ ents (i :: l)=vZ (lF i (aB true) ents) l:=id rfl
theorem E1{K:Type}[DecidableEq K](k:K)(x:AV) : ∀l:List (K × AV),(lF k x l).length≤l.length+1
 | []=>by simp[lF]
 | p :: l=>by
  unfold lF
  split
  ·simp
  ·have:=E1 k x l;simp;omega
theorem BJ : ∀(l:List eY)(ents:List (eY × AV)),(vZ ents l).length≤ents.length+l.length
 | [],ents=>by simp
 | i :: l,ents=>by
  have:=BJ l (lF i (aB true) ents)
  have h2:=E1 i (aB true) ents
  simp
  omega
theorem CL{i:eY} : ∀ {ents:List (eY × AV)},o8 ents→o8 (lF i (aB true) ents)
 | [],h=>by intro p hp;simp[lF]at hp;rw[hp]
 | q :: l,h=>by
  intro p hp
  unfold lF at hp
  split at hp
  ·rcases List.mem_cons.1 hp with rfl | hp
   ·rfl
   ·exact h p (List.mem_cons_of_mem _ hp)
  ·rcases List.mem_cons.1 hp with rfl | hp
   ·exact h _ List.mem_cons_self
   ·exact CL (fun p hp=>h p (List.mem_cons_of_mem _ hp)) p hp
def sO:List (bQ × AV)→List (eY × AV)→List (bQ × AV)→Option (List (bQ × AV) × List (eY × AV))
 | ops,ents,[]=>some (ops,ents)
 | ops,ents,p :: l=>if pW p.1=true∧Ge ops ents p.1=0 then sO (ops++[p]) (if p.1.kind=1 then vZ ents (fI p.1.s) else ents) l else none
structure zN (H0 H:ab) (rh rm:Ref) (ops:List (bQ × AV)) (ents:List (eY × AV)):Prop where
 fr:Fr H
 box : ∃xo,H.get rh=some ⟨2,[.agg [xo,.mp rm]],false,false⟩∧((xo=dg∧ops=[]) ∨∃g,xo = .cG ⟨1,34,g,0⟩ 0 ops.length none∧H.get ⟨1,34,g,0⟩=some ⟨17,eJ ops,true,false⟩)
 map:H.get rm=some (bq (cz s9 ents))
 old : ∀q b,q.d=0→H0.get q=some b→H.get q=some b
 ok:o8 ents
theorem zN.ib{H0 H:ab}{rh rm:Ref}{ops:List (bQ × AV)}{ents:List (eY × AV)}(h:zN H0 H rh rm ops ents):uw H rh ops ents:=by
 obtain⟨xo,h1,h2⟩:=h.box
 rcases h2 with ⟨rfl,rfl⟩ | ⟨g,rfl,h2⟩
 ·exact⟨dg,dg,rm,h1,gY.of (.inl ⟨rfl,rfl⟩) _,h.map⟩
 ·exact⟨_,.cm 17 (eJ ops) none,rm,h1,.inr ⟨_,none,false,by rw[rG],h2,rfl,Nat.le_refl _⟩,h.map⟩
theorem zN.grow{H0 H H':ab}{rh rm:Ref}{ops:List (bQ × AV)}{ents:List (eY × AV)}(h:zN H0 H rh rm ops ents)(g:cw H H'):zN H0 H' rh rm ops ents:=by
 obtain⟨xo,h1,h2⟩:=h.box
 refine⟨g.fr,⟨xo,g.old _ _ h1,?_⟩,g.old _ _ h.map,fun q b hq hb=>g.old _ _ (h.old q b hq hb),h.ok⟩
 rcases h2 with h2 | ⟨g',e,h2⟩
 ·exact .inl h2
 ·exact .inr ⟨g',e,g.old _ _ h2⟩
section
variable{l:List (bQ × AV)}{x12:AV}(hx:Sl 17 (eJ l) x12)(hall : ∀p∈l,He p∧p.1.l.length<1000000)(hl:l.length<10000){rh rm:Ref}(th:rh.t=11)(tm:rm.t=9)(dh:rh.d=1)(dm:rm.d=1){H0:ab}{Q:AV→ab→Prop}
include hx hall hl th tm dh dm
theorem L0{ops:List (bQ × AV)}{ns:List eY}(hn:ns.length<100000){j:Int}{entsF:List (eY × AV)}
 (hF : ∀H,zN H0 H rh rm ops entsF→bW env Tryz.f114 (0+1) kL [(4,.ptr rh 0 0),(14,aI (IntKind.i64.wrap (j+1))),(12,x12),(13,aI l.length)] H Q) :
 ∀(s:List eY)(k:Nat)(i:Int)(ents:List (eY × AV)) (H:ab),ns.drop k=s→k≤ns.length→i=k→zN H0 H rh rm ops ents→vZ ents s=entsF →
 bW env Tryz.f114 (0+1) m0 [(44,aI i),(4,.ptr rh 0 0),(42,.cm 4 (kA ns) none),(12,x12),(13,aI l.length),(14,aI j),(43,aI ns.length)] H Q:=by
 have hy:Sl 4 (kA ns) (.cm 4 (kA ns) none):=Sl.mk _ _
 intro s
 induction s with
 | nil =>
  rintro k i ents H hs hk rfl hI he
  obtain rfl:=drop_nil hs hk
  simp at he
  subst he
  have hfin:=hF H hI
  refine wy _ _ _ _ _ _ _ _ _ _ fun g=>?_
  clear hF hI hall
  simp[ah,ai,ae,af,ad, *,sF]
  all_goals exact hfin
 | cons a s ih =>
  rintro k i ents H hs hk rfl hI he
  obtain⟨hlt,hg,hs',hg'⟩:=drop_cons hs
  have e3:=IntWalk.i64_in ((k:Int)+1) (by omega)
  obtain⟨⟨a1,a2,a3⟩,a4⟩:=a
  have hrd:eQ (kA ns) k 0 4 true=some (.agg [a8 a1,aF a2,a8 a3,aI a4]):=by simp[kA,hg',s9]
  have hlt':(k:Int)<ns.length:=by omega
  obtain⟨hFr,⟨xo,h1,h2⟩,h3,h4,h5⟩:=hI
  have l1:(H.get rh).isSome=true:=by rw[h1];rfl
  have l3:(H.get rm).isSome=true:=by rw[h3];rfl
  have hup:=fun(H':ab)(h:H'.get rm=some (bq (cz s9 ents)))=>pg IB F0 (t:=196) (et:=4) (by kernel_rfl) h ⟨⟨a1,a2,a3⟩,a4⟩ (aB true)
  have n1:rh≠rm:=by rintro rfl;omega
  have n2:=n1.symm
  have hih:=fun H' h=>ih (k+1) ((k:Int)+1) (lF ⟨⟨a1,a2,a3⟩,a4⟩ (aB true) ents) H' hs' (by omega) (by simp) h (by simpa using he)
  have hst : ∀(H1:ab),Fr H1→H1.get rh=some ⟨2,[.agg [xo,.mp rm]],false,false⟩→H1.get rm=some (bq (cz s9 (lF ⟨⟨a1,a2,a3⟩,a4⟩ (aB true) ents)))→(∀q,q≠rm→(H.get q).isSome=true→H1.get q=H.get q)→zN H0 H1 rh rm ops (lF ⟨⟨a1,a2,a3⟩,a4⟩ (aB true) ents):=by
   intro H1 f1 f2 f3 f4
   refine⟨f1,⟨xo,f2,?_⟩,f3,fun q b hq hb=>?_,CL h5⟩
   ·rcases h2 with h2 | ⟨g,e,h2⟩
    ·exact .inl h2
    ·exact .inr ⟨g,e,by rw[f4 _ (fun e=>by have h:=congrArg Ref.t e;rw[tm]at h;exact absurd h (by simp)) (by rw[h2];rfl)];exact h2⟩
   ·rw[f4 q (by rintro rfl;omega) (by rw[h4 q b hq hb];rfl)];exact h4 q b hq hb
  have hiK:(s9 ⟨⟨a1,a2,a3⟩,a4⟩) = .agg [a8 a1,aF a2,a8 a3,aI a4]:=rfl
  rw[hiK]at hup
  clear ih hF hall h4 h2 hs hs' hg hg' he
  refine wy _ _ _ _ _ _ _ _ _ _ fun g=>?_
  simp[ah,ai,ae,af,ad, *,sF,hy.r,hy.idx]
  refine hih _ (hst _ ?_ ?_ ?_ fun q hq hlq=>?_)
  ·exact by simp(maxDischargeDepth:=12) [ab.get_put,aq,an,Fr.nil,aD,ah,ai,ae,af,ar,ao,ad, *]
  ·exact by simp(maxDischargeDepth:=12) [ab.get_put,aq,an,Fr.nil,aD,ah,ai,ae,af,ar,ao,ad, *]
  ·exact by simp(maxDischargeDepth:=12) [ab.get_put,aq,an,Fr.nil,aD,ah,ai,ae,af,ar,ao,ad, *]
  ·simp[ah hFr hlq,ab.get_put,hq]
def Ex(H0:ab)(rh rm:Ref)(n:Nat)(o:Option (List (bQ × AV) × List (eY × AV)))(y:AV)(H:ab):Prop :=
 Fr H∧(∀q b,q.d=0→H0.get q=some b→H.get q=some b)∧match o with
  | none=>y = .tup [.v (.pointer none),aB false]
  | some (ops,ents)=>y = .tup [.ptr rh 0 0,aB true]∧zN H0 H rh rm ops ents∧ops.length≤n∧ents.length≤64 * ops.length ∧∀p∈ops,He p
theorem Mg : ∀(s:List (bQ × AV)) (k:Nat) (i:Int) (ops:List (bQ × AV)) (ents:List (eY × AV)) (H:ab),l.drop k=s→k≤l.length→i=k→ops.length≤k→ents.length≤64 * ops.length→(∀p∈ops,He p)→zN H0 H rh rm ops ents →
 (∀y H',Ex H0 rh rm l.length (sO ops ents s) y H'→Q y H') →
 bW env Tryz.f114 (0+1) kL [(4,.ptr rh 0 0),(14,aI i),(12,x12),(13,aI l.length)] H Q:=by
 intro s
 induction s with
 | nil =>
  rintro k i ops ents H hs hk rfl ho he hok hI hQ
  obtain rfl:=drop_nil hs hk
  have hfin:=hQ _ H ⟨hI.fr,hI.old,rfl,hI,ho,he,hok⟩
  refine yY _ _ _ _ _ _ _ fun g=>?_
  clear hQ hI hall
  simp[ah,ai,ae,af,ad, *,qH]
  all_goals exact hfin
 | cons p s ih =>
  rintro k i ops ents H hs hk rfl ho he hok hI hQ
  obtain⟨hlt,hg,hs',hg'⟩:=drop_cons hs
  have e3:=IntWalk.i64_in ((k:Int)+1) (by omega)
  have hp:=hall p (hg ▸ List.getElem_mem hlt)
  obtain⟨⟨bg,⟨aP,aO,aT⟩,aW,⟨⟨⟨ba,aZ,bc⟩,bf⟩,au⟩,⟨⟨az,ay,ax⟩,aw⟩,⟨aC,aA⟩,al⟩,x⟩:=p
  obtain⟨⟨hax,hal'⟩,hal⟩:=hp
  simp only at hax hal hal'
  have hrd:eQ (eJ l) k 0 17 true=some (.agg [a8 bg,a8 aP,aF aO,a8 aT,aI aW,a8 ba,aF aZ,a8 bc,aI bf,aI au,a8 az,aF ay,a8 ax,aI aw,a8 aC,aF aA,x]):=by simp[eJ,hg',Ed]
  have hlt':(k:Int)<l.length:=by omega
  have hC:=kV bg aP aO aT aW ba aZ bc bf au az ay ax aw aC aA hax hal'
  have hH:=hI.ib
  have hFr:=hI.fr
  have hg1 : ∀b1:bJ,cw H ((⟨1,6,H.gen 1 6,0⟩,some b1) :: H):=fun b1=>cw.cons hFr _ _ _
  have hcell : ∀ {b:bQ × AV},(eJ l).length=l.length:=rG l
  refine yY _ _ _ _ _ _ _ fun g=>?_
  have hno : ¬(pW (⟨bg,⟨aP,aO,aT⟩,aW,⟨⟨⟨ba,aZ,bc⟩,bf⟩,au⟩,⟨⟨az,ay,ax⟩,aw⟩,⟨aC,aA⟩,al⟩:bQ)=true∧Ge ops ents (⟨bg,⟨aP,aO,aT⟩,aW,⟨⟨⟨ba,aZ,bc⟩,bf⟩,au⟩,⟨⟨az,ay,ax⟩,aw⟩,⟨aC,aA⟩,al⟩:bQ)=0)→Q (.tup [.v (.pointer none),aB false]) H→True:=fun _ _=>trivial
  clear hno hcell
  cases hb:pW (⟨bg,⟨aP,aO,aT⟩,aW,⟨⟨⟨ba,aZ,bc⟩,bf⟩,au⟩,⟨⟨az,ay,ax⟩,aw⟩,⟨aC,aA⟩,al⟩:bQ) with
  | false =>
   have hd:sO ops ents (((⟨bg,⟨aP,aO,aT⟩,aW,⟨⟨⟨ba,aZ,bc⟩,bf⟩,au⟩,⟨⟨az,ay,ax⟩,aw⟩,⟨aC,aA⟩,al⟩:bQ),x) :: s)=none:=by simp[sO,hb]
   rw[hd]at hQ
   have hfin:=fun b1=>hQ (.tup [.v (.pointer none),aB false]) _ ⟨(hg1 b1).fr,fun q b hq hb=>(hg1 b1).old _ _ (hI.old q b hq hb),rfl⟩
   clear hQ ih hI hall hH
   simp[ah,ai,ae,af,ad, *,qH,hx.r,hx.idx,hax.r]
   all_goals exact hfin _
  | true =>
   have hfits:=IH 1 (hg1 ⟨17,[.agg [a8 bg,a8 aP,aF aO,a8 aT,aI aW,a8 ba,aF aZ,a8 bc,aI bf,aI au,a8 az,aF ay,a8 ax,aI aw,a8 aC,aF aA,x]],false,false⟩).fr (hH.grow (hg1 _)) hI.ok (by omega) hok (by omega) bg aP aO aT aW ba aZ bc bf au az ay ax aw aC aA hax hal hb
   have hsp:=rz hb
   simp only at hsp
   have hN:=DJ ba aZ bc bf au hsp
   simp[ah,ai,ae,af,ad, *,qH,hx.r,hx.idx,hax.r]
   refine kj (by kernel_rfl) hfits fun H4 hG4=>?_
   have hI4:=(hI.grow (hg1 _)).grow hG4
   by_cases hd0:Ge ops ents (⟨bg,⟨aP,aO,aT⟩,aW,⟨⟨⟨ba,aZ,bc⟩,bf⟩,au⟩,⟨⟨az,ay,ax⟩,aw⟩,⟨aC,aA⟩,al⟩:bQ)=0
   ·have hd:sO ops ents (((⟨bg,⟨aP,aO,aT⟩,aW,⟨⟨⟨ba,aZ,bc⟩,bf⟩,au⟩,⟨⟨az,ay,ax⟩,aw⟩,⟨aC,aA⟩,al⟩:bQ),x) :: s)=sO (ops++[((⟨bg,⟨aP,aO,aT⟩,aW,⟨⟨⟨ba,aZ,bc⟩,bf⟩,au⟩,⟨⟨az,ay,ax⟩,aw⟩,⟨aC,aA⟩,al⟩:bQ),x)]) (if bg=1 then vZ ents (fI ⟨⟨⟨ba,aZ,bc⟩,bf⟩,au⟩) else ents) s:=by
     show(if _ then _ else _)=_
     rw[if_pos ⟨hb,hd0⟩]
    rw[hd]at hQ
    have hnl:=yp hsp
    have hnl2:(fI ⟨⟨⟨ba,aZ,bc⟩,bf⟩,au⟩).length≤64:=by
     have hn:=kU hsp
     simp only at hn
     simp[fI]
     omega
    have hal2:=BJ (fI ⟨⟨⟨ba,aZ,bc⟩,bf⟩,au⟩) ents
    have hok' : ∀p∈ops++[((⟨bg,⟨aP,aO,aT⟩,aW,⟨⟨⟨ba,aZ,bc⟩,bf⟩,au⟩,⟨⟨az,ay,ax⟩,aw⟩,⟨aC,aA⟩,al⟩:bQ),x)],He p:=by
     intro p hp
     rcases List.mem_append.1 hp with hp | hp
     ·exact hok p hp
     ·rw[List.mem_singleton]at hp;subst hp;exact⟨hax,hal'⟩
    obtain⟨hF4,⟨xo,h1,h2⟩,h3,h4,h5⟩:=hI4
    have hb6:=hG4.old ⟨1,6,H.gen 1 6,0⟩ _ (by simp;rfl)
    have lh:(H4.get rh).isSome=true:=by rw[h1];rfl
    have lm:(H4.get rm).isSome=true:=by rw[h3];rfl
    have n34 : ∀g,(⟨1,34,g,0⟩:Ref)≠rh:=fun g e=>by have h:=congrArg Ref.t e;rw[th]at h;exact absurd h (by simp)
    have n34' : ∀g,rh≠(⟨1,34,g,0⟩:Ref):=fun g e=>n34 g e.symm
    have m34 : ∀g,(⟨1,34,g,0⟩:Ref)≠rm:=fun g e=>by have h:=congrArg Ref.t e;rw[tm]at h;exact absurd h (by simp)
    have m34' : ∀g,rm≠(⟨1,34,g,0⟩:Ref):=fun g e=>m34 g e.symm
    have nhm:rh≠rm:=by rintro rfl;omega
    have nmh:=nhm.symm
    have n6:rh≠⟨1,6,H.gen 1 6,0⟩:=fun e=>by have h:=congrArg Ref.t e;rw[th]at h;exact absurd h (by simp)
    have n6':=n6.symm
    have hst : ∀(g m:Nat)(H1:ab),m=ops.length+1→Fr H1→H1.get rh=some ⟨2,[.agg [.cG ⟨1,34,g,0⟩ 0 m none,.mp rm]],false,false⟩→H1.get ⟨1,34,g,0⟩=some ⟨17,eJ ops++[.agg [a8 bg,a8 aP,aF aO,a8 aT,aI aW,a8 ba,aF aZ,a8 bc,aI bf,aI au,a8 az,aF ay,a8 ax,aI aw,a8 aC,aF aA,x]],true,false⟩→H1.get rm=some (bq (cz s9 ents)) →
     (∀q,q.d=0→(H4.get q).isSome=true→H1.get q=H4.get q)→zN H0 H1 rh rm (ops++[((⟨bg,⟨aP,aO,aT⟩,aW,⟨⟨⟨ba,aZ,bc⟩,bf⟩,au⟩,⟨⟨az,ay,ax⟩,aw⟩,⟨aC,aA⟩,al⟩:bQ),x)]) ents:=by
     intro g m H1 hm f1 f2 f3 f4 f5
     subst hm
     refine⟨f1,⟨_,f2,.inr ⟨g,by simp,by rw[f3];simp[eJ,Ed]⟩⟩,f4,fun q b hq hb=>?_,h5⟩
     rw[f5 q hq (by rw[h4 q b hq hb];rfl)]
     exact h4 q b hq hb
    have hcont : ∀(H7:ab),zN H0 H7 rh rm (ops++[((⟨bg,⟨aP,aO,aT⟩,aW,⟨⟨⟨ba,aZ,bc⟩,bf⟩,au⟩,⟨⟨az,ay,ax⟩,aw⟩,⟨aC,aA⟩,al⟩:bQ),x)]) ents→(if bg=1 then bW env Tryz.f114 (0+1) m0 [(44,aI 0),(4,.ptr rh 0 0),(42,.cm 4 (kA (fI ⟨⟨⟨ba,aZ,bc⟩,bf⟩,au⟩)) none),(12,x12),(13,aI l.length),(14,aI k),(43,aI (fI ⟨⟨⟨ba,aZ,bc⟩,bf⟩,au⟩).length)] H7 Q
     else bW env Tryz.f114 (0+1) kL [(4,.ptr rh 0 0),(14,aI ((k:Int)+1)),(12,x12),(13,aI l.length)] H7 Q):=by
     intro H7 hI7
     split
     ·rename_i hk1
      rw[if_pos hk1]at hQ
      exact L0 hx hall hl th tm dh dm hnl (fun H' hI'=>by rw[e3];exact ih (k+1) _ _ _ H' hs' (by omega) (by simp) (by simp;omega) (by simp;omega) hok' hI' hQ) _ 0 0 ents H7 rfl (by omega) rfl hI7 rfl
     ·rename_i hk1
      rw[if_neg hk1]at hQ
      exact ih (k+1) _ _ _ H7 hs' (by omega) (by simp) (by simp;omega) (by simp;omega) hok' hI7 hQ
    clear hall hQ ih hI hH hfits hC hok hok' hal2 hs hs' hg hg' h4 h5 hG4 hrd hd
    rcases h2 with ⟨rfl,rfl⟩ | ⟨g,rfl,h2⟩
    ·have hst':=hst (H4.gen 1 34) 1
     clear hst
     have heo:eJ []=[]:=rfl
     by_cases hk1:bg=1
     ·subst hk1
      have hc:=fun H7 h=>hcont H7 h
      simp only[if_true]at hc
      clear hcont
      simp[ah,ai,ae,af,ad, *,hax.r]
      refine hc _ (hst' _ rfl ?_ ?_ ?_ ?_ fun q hq hlq=>?_)
      ·exact by simp(maxDischargeDepth:=12) [ab.get_put,aq,an,Fr.nil,aD,ah,ai,ae,af,ar,ao,ad, *]
      ·exact by simp(maxDischargeDepth:=12) [ab.get_put,aq,an,Fr.nil,aD,ah,ai,ae,af,ar,ao,ad, *]
      ·exact by simp(maxDischargeDepth:=12) [ab.get_put,aq,an,Fr.nil,aD,ah,ai,ae,af,ar,ao,ad, *]
      ·exact by simp(maxDischargeDepth:=12) [ab.get_put,aq,an,Fr.nil,aD,ah,ai,ae,af,ar,ao,ad, *]
      ·have nq:q≠rh:=by rintro rfl;omega
       have nqg : ∀g,q≠(⟨1,34,g,0⟩:Ref):=fun g e=>by have h:=congrArg Ref.d e;rw[hq]at h;exact absurd h (by simp)
       simp[ah hF4 hlq,ab.get_put,nq,nqg,nq.symm,fun g=>(nqg g).symm]
     ·have hc:=fun H7 h=>hcont H7 h
      simp only[hk1,if_false]at hc
      clear hcont
      simp[ah,ai,ae,af,ad, *,hax.r]
      refine hc _ (hst' _ rfl ?_ ?_ ?_ ?_ fun q hq hlq=>?_)
      ·exact by simp(maxDischargeDepth:=12) [ab.get_put,aq,an,Fr.nil,aD,ah,ai,ae,af,ar,ao,ad, *]
      ·exact by simp(maxDischargeDepth:=12) [ab.get_put,aq,an,Fr.nil,aD,ah,ai,ae,af,ar,ao,ad, *]
      ·exact by simp(maxDischargeDepth:=12) [ab.get_put,aq,an,Fr.nil,aD,ah,ai,ae,af,ar,ao,ad, *]
      ·exact by simp(maxDischargeDepth:=12) [ab.get_put,aq,an,Fr.nil,aD,ah,ai,ae,af,ar,ao,ad, *]
      ·have nq:q≠rh:=by rintro rfl;omega
       have nqg : ∀g,q≠(⟨1,34,g,0⟩:Ref):=fun g e=>by have h:=congrArg Ref.d e;rw[hq]at h;exact absurd h (by simp)
       simp[ah hF4 hlq,ab.get_put,nq,nqg,nq.symm,fun g=>(nqg g).symm]
    ·have hst':=hst (H4.gen 1 34) (ops.length+1)
     clear hst
     have l34:(H4.get ⟨1,34,g,0⟩).isSome=true:=by rw[h2];rfl
     have f4:lV 17 112 ops.length true none (some ⟨17,eJ ops,true,false⟩) (some [.agg [a8 bg,a8 aP,aF aO,a8 aT,aI aW,a8 ba,aF aZ,a8 bc,aI bf,aI au,a8 az,aF ay,a8 ax,aI aw,a8 aC,aF aA,x]]):=by
      simp;omega
     by_cases hk1:bg=1
     ·subst hk1
      have hc:=fun H7 h=>hcont H7 h
      simp only[if_true]at hc
      clear hcont
      simp[ah,ai,ae,af,ad, *,hax.r]
      refine hc _ (hst' _ rfl ?_ ?_ ?_ ?_ fun q hq hlq=>?_)
      ·exact by simp(maxDischargeDepth:=12) [ab.get_put,aq,an,Fr.nil,aD,ah,ai,ae,af,ar,ao,ad, *]
      ·exact by simp(maxDischargeDepth:=12) [ab.get_put,aq,an,Fr.nil,aD,ah,ai,ae,af,ar,ao,ad, *]
      ·exact by simp(maxDischargeDepth:=12) [ab.get_put,aq,an,Fr.nil,aD,ah,ai,ae,af,ar,ao,ad, *]
      ·exact by simp(maxDischargeDepth:=12) [ab.get_put,aq,an,Fr.nil,aD,ah,ai,ae,af,ar,ao,ad, *]
      ·have nq:q≠rh:=by rintro rfl;omega
       have nqg : ∀g,q≠(⟨1,34,g,0⟩:Ref):=fun g e=>by have h:=congrArg Ref.d e;rw[hq]at h;exact absurd h (by simp)
       simp[ah hF4 hlq,ab.get_put,nq,nqg,nq.symm,fun g=>(nqg g).symm]
     ·have hc:=fun H7 h=>hcont H7 h
      simp only[hk1,if_false]at hc
      clear hcont
      simp[ah,ai,ae,af,ad, *,hax.r]
      refine hc _ (hst' _ rfl ?_ ?_ ?_ ?_ fun q hq hlq=>?_)
      ·exact by simp(maxDischargeDepth:=12) [ab.get_put,aq,an,Fr.nil,aD,ah,ai,ae,af,ar,ao,ad, *]
      ·exact by simp(maxDischargeDepth:=12) [ab.get_put,aq,an,Fr.nil,aD,ah,ai,ae,af,ar,ao,ad, *]
      ·exact by simp(maxDischargeDepth:=12) [ab.get_put,aq,an,Fr.nil,aD,ah,ai,ae,af,ar,ao,ad, *]
      ·exact by simp(maxDischargeDepth:=12) [ab.get_put,aq,an,Fr.nil,aD,ah,ai,ae,af,ar,ao,ad, *]
      ·have nq:q≠rh:=by rintro rfl;omega
       have nqg : ∀g,q≠(⟨1,34,g,0⟩:Ref):=fun g e=>by have h:=congrArg Ref.d e;rw[hq]at h;exact absurd h (by simp)
       simp[ah hF4 hlq,ab.get_put,nq,nqg,nq.symm,fun g=>(nqg g).symm]
   ·have hd:sO ops ents (((⟨bg,⟨aP,aO,aT⟩,aW,⟨⟨⟨ba,aZ,bc⟩,bf⟩,au⟩,⟨⟨az,ay,ax⟩,aw⟩,⟨aC,aA⟩,al⟩:bQ),x) :: s)=none:=by
     show(if _ then _ else _)=_
     rw[if_neg (fun h=>hd0 h.2)]
    rw[hd]at hQ
    have hfin:=hQ (.tup [.v (.pointer none),aB false]) H4 ⟨hI4.fr,hI4.old,rfl⟩
    simp[hd0]
    all_goals exact hfin
end
end Go.Proofs.YtdbiffjdomokfaaGreat
