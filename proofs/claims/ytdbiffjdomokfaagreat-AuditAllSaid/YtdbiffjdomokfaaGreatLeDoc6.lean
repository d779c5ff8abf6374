/-
  What a list of operations tells: the history. No statement of a seat is proved here.
-/
import Derived.Test.YtdbiffjdomokfaaGreatLeDoc5
set_option linter.unusedVariables false
set_option linter.unusedSimpArgs false
set_option linter.unusedSectionVars false
set_option linter.unnecessarySimpa false
set_option maxRecDepth 100000
namespace Go.Proofs.YtdbiffjdomokfaaGreat
open Go.Ab
attribute [local simp] bD bq bo bF bE cZ ld bQ bx bA dx dw cg bT aY ct List.take_of_length_le
def xf(ents:List (fl × AV))(l:List fl):List (fl × AV):=l.foldl (fun e i=>mi i (aB true) e) ents
@[simp] theorem TF(ents:List (fl × AV)):xf ents []=ents:=id rfl
@[simp] theorem RN(ents:List (fl × AV))(i:fl)(l:List fl):xf ents (i :: l)=xf (mi i (aB true) ents) l:=id rfl
theorem F0{K:Type}[DecidableEq K](k:K)(x:AV) : ∀l:List (K × AV),(mi k x l).length≤l.length+1
 | []=>by simp[mi]
 | p :: l=>by
  unfold mi
  split
  ·simp
  ·have:=F0 k x l;simp;omega
theorem CK : ∀(l:List fl)(ents:List (fl × AV)),(xf ents l).length≤ents.length+l.length
 | [],ents=>by simp
 | i :: l,ents=>by
  have:=CK l (mi i (aB true) ents)
  have h2:=F0 i (aB true) ents
  simp
  omega
theorem DP{i:fl} : ∀ {ents:List (fl × AV)},pH ents→pH (mi i (aB true) ents)
 | [],h=>by intro p hp;simp[mi]at hp;rw[hp]
 | q :: l,h=>by
  intro p hp
  unfold mi at hp
  split at hp
  ·rcases List.mem_cons.1 hp with rfl | hp
   ·rfl
   ·exact h p (List.mem_cons_of_mem _ hp)
  ·rcases List.mem_cons.1 hp with rfl | hp
   ·exact h _ List.mem_cons_self
   ·exact DP (fun p hp=>h p (List.mem_cons_of_mem _ hp)) p hp
def tP:List (bR × AV)→List (fl × AV)→List (bR × AV)→Option (List (bR × AV) × List (fl × AV))
 | ops,ents,[]=>some (ops,ents)
 | ops,ents,p :: l=>if qy p.1=true∧Ho ops ents p.1=0 then tP (ops++[p]) (if p.1.kind=1 then xf ents (fY p.1.s) else ents) l else none
structure AQ (H0 H:ab) (rh rm:Ref) (ops:List (bR × AV)) (ents:List (fl × AV)):Prop where
 fr:Fr H
 box : ∃xo,H.get rh=some ⟨2,[.agg [xo,.mp rm]],false,false⟩∧((xo=cW∧ops=[]) ∨∃g,xo = .cH ⟨1,34,g,0⟩ 0 ops.length none∧H.get ⟨1,34,g,0⟩=some ⟨17,eU ops,true,false⟩)
 map:H.get rm=some (bt (cD ug ents))
 old : ∀q b,q.d=0→H0.get q=some b→H.get q=some b
 ok:pH ents
theorem AQ.iD{H0 H:ab}{rh rm:Ref}{ops:List (bR × AV)}{ents:List (fl × AV)}(h:AQ H0 H rh rm ops ents):vt H rh ops ents:=by
 obtain⟨xo,h1,h2⟩:=h.box
 rcases h2 with ⟨rfl,rfl⟩ | ⟨g,rfl,h2⟩
 ·exact⟨cW,cW,rm,h1,iu.of (.inl ⟨rfl,rfl⟩) _,h.map⟩
 ·exact⟨_,.cw 17 (eU ops) none,rm,h1,.inr ⟨_,none,false,by rw[sA],h2,rfl,Nat.le_refl _⟩,h.map⟩
theorem AQ.grow{H0 H H':ab}{rh rm:Ref}{ops:List (bR × AV)}{ents:List (fl × AV)}(h:AQ H0 H rh rm ops ents)(g:cz H H'):AQ H0 H' rh rm ops ents:=by
 obtain⟨xo,h1,h2⟩:=h.box
 refine⟨g.fr,⟨xo,g.old _ _ h1,?_⟩,g.old _ _ h.map,fun q b hq hb=>g.old _ _ (h.old q b hq hb),h.ok⟩
 rcases h2 with h2 | ⟨g',e,h2⟩
 ·exact .inl h2
 ·exact .inr ⟨g',e,g.old _ _ h2⟩
section
variable{l:List (bR × AV)}{x12:AV}(hx:Sl 17 (eU l) x12)(hall : ∀p∈l,ID p∧p.1.l.length<1000000)(hl:l.length<10000){rh rm:Ref}(th:rh.t=11)(tm:rm.t=9)(dh:rh.d=1)(dm:rm.d=1){H0:ab}{Q:AV→ab→Prop}
include hx hall hl th tm dh dm
theorem NJ{ops:List (bR × AV)}{ns:List fl}(hn:ns.length<100000){j:Int}{entsF:List (fl × AV)}
 (hF : ∀H,AQ H0 H rh rm ops entsF→bP env Tryz.f114 (0+1) ly [(4,.ptr rh 0 0),(14,aI (IntKind.i64.wrap (j+1))),(12,x12),(13,aI l.length)] H Q) :
 ∀(s:List fl)(k:Nat)(i:Int)(ents:List (fl × AV)) (H:ab),ns.drop k=s→k≤ns.length→i=k→AQ H0 H rh rm ops ents→xf ents s=entsF →
 bP env Tryz.f114 (0+1) nI [(44,aI i),(4,.ptr rh 0 0),(42,.cw 4 (kZ ns) none),(12,x12),(13,aI l.length),(14,aI j),(43,aI ns.length)] H Q:=by
 have hy:Sl 4 (kZ ns) (.cw 4 (kZ ns) none):=Sl.mk _ _
 intro s
 induction s with
 | nil =>
  rintro k i ents H hs hk rfl hI he
  obtain rfl:=drop_nil hs hk
  simp at he
  subst he
  have hfin:=hF H hI
  refine xB _ _ _ _ _ _ _ _ _ _ fun g=>?_
  clear hF hI hall
  simp[ah,ai,ae,af,ad, *,tG]
  all_goals exact hfin
 | cons a s ih =>
  rintro k i ents H hs hk rfl hI he
  obtain⟨hlt,hg,hs',hg'⟩:=drop_cons hs
  have e3:=IntWalk.i64_in ((k:Int)+1) (by omega)
  obtain⟨⟨a1,a2,a3⟩,a4⟩:=a
  have hrd:dX (kZ ns) k 0 4 true=some (.agg [a8 a1,aF a2,a8 a3,aI a4]):=by simp[kZ,hg',ug]
  have hlt':(k:Int)<ns.length:=by omega
  obtain⟨hFr,⟨xo,h1,h2⟩,h3,h4,h5⟩:=hI
  have l1:(H.get rh).isSome=true:=by rw[h1];rfl
  have l3:(H.get rm).isSome=true:=by rw[h3];rfl
  have hup:=fun(H':ab)(h:H'.get rm=some (bt (cD ug ents)))=>pO JS G0 (t:=196) (et:=4) (by kernel_rfl) h ⟨⟨a1,a2,a3⟩,a4⟩ (aB true)
  have n1:rh≠rm:=by rintro rfl;omega
  have n2:=n1.symm
  have hih:=fun H' h=>ih (k+1) ((k:Int)+1) (mi ⟨⟨a1,a2,a3⟩,a4⟩ (aB true) ents) H' hs' (by omega) (by simp) h (by simpa using he)
  have hst : ∀(H1:ab),Fr H1→H1.get rh=some ⟨2,[.agg [xo,.mp rm]],false,false⟩→H1.get rm=some (bt (cD ug (mi ⟨⟨a1,a2,a3⟩,a4⟩ (aB true) ents)))→(∀q,q≠rm→(H.get q).isSome=true→H1.get q=H.get q)→AQ H0 H1 rh rm ops (mi ⟨⟨a1,a2,a3⟩,a4⟩ (aB true) ents):=by
   intro H1 f1 f2 f3 f4
   refine⟨f1,⟨xo,f2,?_⟩,f3,fun q b hq hb=>?_,DP h5⟩
   ·rcases h2 with h2 | ⟨g,e,h2⟩
    ·exact .inl h2
    ·exact .inr ⟨g,e,by rw[f4 _ (fun e=>by have h:=congrArg Ref.t e;rw[tm]at h;exact absurd h (by simp)) (by rw[h2];rfl)];exact h2⟩
   ·rw[f4 q (by rintro rfl;omega) (by rw[h4 q b hq hb];rfl)];exact h4 q b hq hb
  have hiK:(ug ⟨⟨a1,a2,a3⟩,a4⟩) = .agg [a8 a1,aF a2,a8 a3,aI a4]:=rfl
  rw[hiK]at hup
  clear ih hF hall h4 h2 hs hs' hg hg' he
  refine xB _ _ _ _ _ _ _ _ _ _ fun g=>?_
  simp[ah,ai,ae,af,ad, *,tG,hy.r,hy.idx]
  refine hih _ (hst _ ?_ ?_ ?_ fun q hq hlq=>?_)
  ·exact by simp(maxDischargeDepth:=12) [ab.get_put,aq,an,Fr.nil,aD,ah,ai,ae,af,ar,ao,ad, *]
  ·exact by simp(maxDischargeDepth:=12) [ab.get_put,aq,an,Fr.nil,aD,ah,ai,ae,af,ar,ao,ad, *]
  ·exact by simp(maxDischargeDepth:=12) [ab.get_put,aq,an,Fr.nil,aD,ah,ai,ae,af,ar,ao,ad, *]
  ·simp[ah hFr hlq,ab.get_put,hq]
def Fw(H0:ab)(rh rm:Ref)(n:Nat)(o:Option (List (bR × AV) × List (fl × AV)))(y:AV)(H:ab):Prop :=
 Fr H∧(∀q b,q.d=0→H0.get q=some b→H.get q=some b)∧match o with
  | none=>y = .tup [.v (.pointer none),aB false]
  | some (ops,ents)=>y = .tup [.ptr rh 0 0,aB true]∧AQ H0 H rh rm ops ents∧ops.length≤n∧ents.length≤64 * ops.length ∧∀p∈ops,ID p
theorem NZ : ∀(s:List (bR × AV)) (k:Nat) (i:Int) (ops:List (bR × AV)) (ents:List (fl × AV)) (H:ab),l.drop k=s→k≤l.length→i=k→ops.length≤k→ents.length≤64 * ops.length→(∀p∈ops,ID p)→AQ H0 H rh rm ops ents →
 (∀y H',Fw H0 rh rm l.length (tP ops ents s) y H'→Q y H') →
 bP env Tryz.f114 (0+1) ly [(4,.ptr rh 0 0),(14,aI i),(12,x12),(13,aI l.length)] H Q:=by
 intro s
 induction s with
 | nil =>
  rintro k i ops ents H hs hk rfl ho he hok hI hQ
  obtain rfl:=drop_nil hs hk
  have hfin:=hQ _ H ⟨hI.fr,hI.old,rfl,hI,ho,he,hok⟩
  refine z0 _ _ _ _ _ _ _ fun g=>?_
  clear hQ hI hall
  simp[ah,ai,ae,af,ad, *,ry]
  all_goals exact hfin
 | cons p s ih =>
  rintro k i ops ents H hs hk rfl ho he hok hI hQ
  obtain⟨hlt,hg,hs',hg'⟩:=drop_cons hs
  have e3:=IntWalk.i64_in ((k:Int)+1) (by omega)
  have hp:=hall p (hg ▸ List.getElem_mem hlt)
  obtain⟨⟨bh,⟨aQ,aP,aT⟩,aX,⟨⟨⟨bc,ba,bf⟩,bg⟩,au⟩,⟨⟨az,ay,ax⟩,aw⟩,⟨aC,aA⟩,al⟩,x⟩:=p
  obtain⟨⟨hax,hal'⟩,hal⟩:=hp
  simp only at hax hal hal'
  have hrd:dX (eU l) k 0 17 true=some (.agg [a8 bh,a8 aQ,aF aP,a8 aT,aI aX,a8 bc,aF ba,a8 bf,aI bg,aI au,a8 az,aF ay,a8 ax,aI aw,a8 aC,aF aA,x]):=by simp[eU,hg',Fc]
  have hlt':(k:Int)<l.length:=by omega
  have hC:=lG bh aQ aP aT aX bc ba bf bg au az ay ax aw aC aA hax hal'
  have hH:=hI.iD
  have hFr:=hI.fr
  have hg1 : ∀b1:bM,cz H ((⟨1,6,H.gen 1 6,0⟩,some b1) :: H):=fun b1=>cz.cons hFr _ _ _
  have hcell : ∀ {b:bR × AV},(eU l).length=l.length:=sA l
  refine z0 _ _ _ _ _ _ _ fun g=>?_
  have hno : ¬(qy (⟨bh,⟨aQ,aP,aT⟩,aX,⟨⟨⟨bc,ba,bf⟩,bg⟩,au⟩,⟨⟨az,ay,ax⟩,aw⟩,⟨aC,aA⟩,al⟩:bR)=true∧Ho ops ents (⟨bh,⟨aQ,aP,aT⟩,aX,⟨⟨⟨bc,ba,bf⟩,bg⟩,au⟩,⟨⟨az,ay,ax⟩,aw⟩,⟨aC,aA⟩,al⟩:bR)=0)→Q (.tup [.v (.pointer none),aB false]) H→True:=fun _ _=>trivial
  clear hno hcell
  cases hb:qy (⟨bh,⟨aQ,aP,aT⟩,aX,⟨⟨⟨bc,ba,bf⟩,bg⟩,au⟩,⟨⟨az,ay,ax⟩,aw⟩,⟨aC,aA⟩,al⟩:bR) with
  | false =>
   have hd:tP ops ents (((⟨bh,⟨aQ,aP,aT⟩,aX,⟨⟨⟨bc,ba,bf⟩,bg⟩,au⟩,⟨⟨az,ay,ax⟩,aw⟩,⟨aC,aA⟩,al⟩:bR),x) :: s)=none:=by simp[tP,hb]
   rw[hd]at hQ
   have hfin:=fun b1=>hQ (.tup [.v (.pointer none),aB false]) _ ⟨(hg1 b1).fr,fun q b hq hb=>(hg1 b1).old _ _ (hI.old q b hq hb),rfl⟩
   clear hQ ih hI hall hH
   simp[ah,ai,ae,af,ad, *,ry,hx.r,hx.idx,hax.r]
   all_goals exact hfin _
  | true =>
   have hfits:=JZ 1 (hg1 ⟨17,[.agg [a8 bh,a8 aQ,aF aP,a8 aT,aI aX,a8 bc,aF ba,a8 bf,aI bg,aI au,a8 az,aF ay,a8 ax,aI aw,a8 aC,aF aA,x]],false,false⟩).fr (hH.grow (hg1 _)) hI.ok (by omega) hok (by omega) bh aQ aP aT aX bc ba bf bg au az ay ax aw aC aA hax hal hb
   have hsp:=si hb
   simp only at hsp
   have hN:=EJ bc ba bf bg au hsp
   simp[ah,ai,ae,af,ad, *,ry,hx.r,hx.idx,hax.r]
   refine kU (by kernel_rfl) hfits fun H4 hG4=>?_
   have hI4:=(hI.grow (hg1 _)).grow hG4
   by_cases hd0:Ho ops ents (⟨bh,⟨aQ,aP,aT⟩,aX,⟨⟨⟨bc,ba,bf⟩,bg⟩,au⟩,⟨⟨az,ay,ax⟩,aw⟩,⟨aC,aA⟩,al⟩:bR)=0
   ·have hd:tP ops ents (((⟨bh,⟨aQ,aP,aT⟩,aX,⟨⟨⟨bc,ba,bf⟩,bg⟩,au⟩,⟨⟨az,ay,ax⟩,aw⟩,⟨aC,aA⟩,al⟩:bR),x) :: s)=tP (ops++[((⟨bh,⟨aQ,aP,aT⟩,aX,⟨⟨⟨bc,ba,bf⟩,bg⟩,au⟩,⟨⟨az,ay,ax⟩,aw⟩,⟨aC,aA⟩,al⟩:bR),x)]) (if bh=1 then xf ents (fY ⟨⟨⟨bc,ba,bf⟩,bg⟩,au⟩) else ents) s:=by
     show(if _ then _ else _)=_
     rw[if_pos ⟨hb,hd0⟩]
    rw[hd]at hQ
    have hnl:=zr hsp
    have hnl2:(fY ⟨⟨⟨bc,ba,bf⟩,bg⟩,au⟩).length≤64:=by
     have hn:=lF hsp
     simp only at hn
     simp[fY]
     omega
    have hal2:=CK (fY ⟨⟨⟨bc,ba,bf⟩,bg⟩,au⟩) ents
    have hok' : ∀p∈ops++[((⟨bh,⟨aQ,aP,aT⟩,aX,⟨⟨⟨bc,ba,bf⟩,bg⟩,au⟩,⟨⟨az,ay,ax⟩,aw⟩,⟨aC,aA⟩,al⟩:bR),x)],ID p:=by
     intro p hp
     rcases List.mem_append.1 hp with hp | hp
     ·exact hok p hp
     ·rw[List.mem_singleton]at hp;subst hp;exact⟨hax,hal'⟩
    obtain⟨hF4,⟨xo,h1,h2⟩,h3,h4,h5⟩:=hI4
    have hb6:=hG4.old ⟨1,6,H.gen 1 6,0⟩ _ (by simp;rfl)
    have lh:(H4.get rh).isSome=true:=by rw[h1];rfl
    have lm:(H4.get rm).isSome=true:=by rw[h3];rfl
    have n34 : ∀g,(⟨1,34,g,0⟩:Ref)≠rh:=fun g e=>by have h:=congrArg Ref.t e;rw[th]at h;exact absurd h (by simp)
    have n34' : ∀g,rh≠(⟨1,34,g,0⟩:Ref):=fun g e=>n34 g e.symm
    have m34 : ∀g,(⟨1,34,g,0⟩:Ref)≠rm:=fun g e=>by have h:=congrArg Ref.t e;rw[tm]at h;exact absurd h (by simp)
    have m34' : ∀g,rm≠(⟨1,34,g,0⟩:Ref):=fun g e=>m34 g e.symm
    have nhm:rh≠rm:=by rintro rfl;omega
    have nmh:=nhm.symm
    have n6:rh≠⟨1,6,H.gen 1 6,0⟩:=fun e=>by have h:=congrArg Ref.t e;rw[th]at h;exact absurd h (by simp)
    have n6':=n6.symm
    have hst : ∀(g m:Nat)(H1:ab),m=ops.length+1→Fr H1→H1.get rh=some ⟨2,[.agg [.cH ⟨1,34,g,0⟩ 0 m none,.mp rm]],false,false⟩→H1.get ⟨1,34,g,0⟩=some ⟨17,eU ops++[.agg [a8 bh,a8 aQ,aF aP,a8 aT,aI aX,a8 bc,aF ba,a8 bf,aI bg,aI au,a8 az,aF ay,a8 ax,aI aw,a8 aC,aF aA,x]],true,false⟩→H1.get rm=some (bt (cD ug ents)) →
     (∀q,q.d=0→(H4.get q).isSome=true→H1.get q=H4.get q)→AQ H0 H1 rh rm (ops++[((⟨bh,⟨aQ,aP,aT⟩,aX,⟨⟨⟨bc,ba,bf⟩,bg⟩,au⟩,⟨⟨az,ay,ax⟩,aw⟩,⟨aC,aA⟩,al⟩:bR),x)]) ents:=by
     intro g m H1 hm f1 f2 f3 f4 f5
     subst hm
     refine⟨f1,⟨_,f2,.inr ⟨g,by simp,by rw[f3];simp[eU,Fc]⟩⟩,f4,fun q b hq hb=>?_,h5⟩
     rw[f5 q hq (by rw[h4 q b hq hb];rfl)]
     exact h4 q b hq hb
    have hcont : ∀(H7:ab),AQ H0 H7 rh rm (ops++[((⟨bh,⟨aQ,aP,aT⟩,aX,⟨⟨⟨bc,ba,bf⟩,bg⟩,au⟩,⟨⟨az,ay,ax⟩,aw⟩,⟨aC,aA⟩,al⟩:bR),x)]) ents→(if bh=1 then bP env Tryz.f114 (0+1) nI [(44,aI 0),(4,.ptr rh 0 0),(42,.cw 4 (kZ (fY ⟨⟨⟨bc,ba,bf⟩,bg⟩,au⟩)) none),(12,x12),(13,aI l.length),(14,aI k),(43,aI (fY ⟨⟨⟨bc,ba,bf⟩,bg⟩,au⟩).length)] H7 Q
     else bP env Tryz.f114 (0+1) ly [(4,.ptr rh 0 0),(14,aI ((k:Int)+1)),(12,x12),(13,aI l.length)] H7 Q):=by
     intro H7 hI7
     split
     ·rename_i hk1
      rw[if_pos hk1]at hQ
      exact NJ hx hall hl th tm dh dm hnl (fun H' hI'=>by rw[e3];exact ih (k+1) _ _ _ H' hs' (by omega) (by simp) (by simp;omega) (by simp;omega) hok' hI' hQ) _ 0 0 ents H7 rfl (by omega) rfl hI7 rfl
     ·rename_i hk1
      rw[if_neg hk1]at hQ
      exact ih (k+1) _ _ _ H7 hs' (by omega) (by simp) (by simp;omega) (by simp;omega) hok' hI7 hQ
    clear hall hQ ih hI hH hfits hC hok hok' hal2 hs hs' hg hg' h4 h5 hG4 hrd hd
    rcases h2 with ⟨rfl,rfl⟩ | ⟨g,rfl,h2⟩
    ·have hst':=hst (H4.gen 1 34) 1
     clear hst
     have heo:eU []=[]:=rfl
     by_cases hk1:bh=1
     ·subst hk1
      have hc:=fun H7 h=>hcont H7 h
      simp only[if_true]at hc
      clear hcont
      simp[ah,ai,ae,af,ad, *,hax.r]
      refine hc _ (hst' _ rfl ?_ ?_ ?_ ?_ fun q hq hlq=>?_)
      ·exact by simp(maxDischargeDepth:=12) [ab.get_put,aq,an,Fr.nil,aD,ah,ai,ae,af,ar,ao,ad, *]
      ·exact by simp(maxDischargeDepth:=12) [ab.get_put,aq,an,Fr.nil,aD,ah,ai,ae,af,ar,ao,ad, *]
      ·exact by simp(maxDischargeDepth:=12) [ab.get_put,aq,an,Fr.nil,aD,ah,ai,ae,af,ar,ao,ad, *]
      ·exact by simp(maxDischargeDepth:=12) [ab.get_put,aq,an,Fr.nil,aD,ah,ai,ae,af,ar,ao,ad, *]
      ·have nq:q≠rh:=by rintro rfl;omega
       have nqg : ∀g,q≠(⟨1,34,g,0⟩:Ref):=fun g e=>by have h:=congrArg Ref.d e;rw[hq]at h;exact absurd h (by simp)
       simp[ah hF4 hlq,ab.get_put,nq,nqg,nq.symm,fun g=>(nqg g).symm]
     ·have hc:=fun H7 h=>hcont H7 h
      simp only[hk1,if_false]at hc
      clear hcont
      simp[ah,ai,ae,af,ad, *,hax.r]
      refine hc _ (hst' _ rfl ?_ ?_ ?_ ?_ fun q hq hlq=>?_)
      ·exact by simp(maxDischargeDepth:=12) [ab.get_put,aq,an,Fr.nil,aD,ah,ai,ae,af,ar,ao,ad, *]
      ·exact by simp(maxDischargeDepth:=12) [ab.get_put,aq,an,Fr.nil,aD,ah,ai,ae,af,ar,ao,ad, *]
      ·exact by simp(maxDischargeDepth:=12) [ab.get_put,aq,an,Fr.nil,aD,ah,ai,ae,af,ar,ao,ad, *]
      ·exact by simp(maxDischargeDepth:=12) [ab.get_put,aq,an,Fr.nil,aD,ah,ai,ae,af,ar,ao,ad, *]
      ·have nq:q≠rh:=by rintro rfl;omega
       have nqg : ∀g,q≠(⟨1,34,g,0⟩:Ref):=fun g e=>by have h:=congrArg Ref.d e;rw[hq]at h;exact absurd h (by simp)
       simp[ah hF4 hlq,ab.get_put,nq,nqg,nq.symm,fun g=>(nqg g).symm]
    ·have hst':=hst (H4.gen 1 34) (ops.length+1)
     clear hst
     have l34:(H4.get ⟨1,34,g,0⟩).isSome=true:=by rw[h2];rfl
     have f4:lQ 17 112 ops.length true none (some ⟨17,eU ops,true,false⟩) (some [.agg [a8 bh,a8 aQ,aF aP,a8 aT,aI aX,a8 bc,aF ba,a8 bf,aI bg,aI au,a8 az,aF ay,a8 ax,aI aw,a8 aC,aF aA,x]]):=by
      simp;omega
     by_cases hk1:bh=1
     ·subst hk1
      have hc:=fun H7 h=>hcont H7 h
      simp only[if_true]at hc
      clear hcont
      simp[ah,ai,ae,af,ad, *,hax.r]
      refine hc _ (hst' _ rfl ?_ ?_ ?_ ?_ fun q hq hlq=>?_)
      ·exact by simp(maxDischargeDepth:=12) [ab.get_put,aq,an,Fr.nil,aD,ah,ai,ae,af,ar,ao,ad, *]
      ·exact by simp(maxDischargeDepth:=12) [ab.get_put,aq,an,Fr.nil,aD,ah,ai,ae,af,ar,ao,ad, *]
      ·exact by simp(maxDischargeDepth:=12) [ab.get_put,aq,an,Fr.nil,aD,ah,ai,ae,af,ar,ao,ad, *]
      ·exact by simp(maxDischargeDepth:=12) [ab.get_put,aq,an,Fr.nil,aD,ah,ai,ae,af,ar,ao,ad, *]
      ·have nq:q≠rh:=by rintro rfl;omega
       have nqg : ∀g,q≠(⟨1,34,g,0⟩:Ref):=fun g e=>by have h:=congrArg Ref.d e;rw[hq]at h;exact absurd h (by simp)
       simp[ah hF4 hlq,ab.get_put,nq,nqg,nq.symm,fun g=>(nqg g).symm]
     ·have hc:=fun H7 h=>hcont H7 h
      simp only[hk1,if_false]at hc
      clear hcont
      simp[ah,ai,ae,af,ad, *,hax.r]
      refine hc _ (hst' _ rfl ?_ ?_ ?_ ?_ fun q hq hlq=>?_)
      ·exact by simp(maxDischargeDepth:=12) [ab.get_put,aq,an,Fr.nil,aD,ah,ai,ae,af,ar,ao,ad, *]
      ·exact by simp(maxDischargeDepth:=12) [ab.get_put,aq,an,Fr.nil,aD,ah,ai,ae,af,ar,ao,ad, *]
      ·exact by simp(maxDischargeDepth:=12) [ab.get_put,aq,an,Fr.nil,aD,ah,ai,ae,af,ar,ao,ad, *]
      ·exact by simp(maxDischargeDepth:=12) [ab.get_put,aq,an,Fr.nil,aD,ah,ai,ae,af,ar,ao,ad, *]
      ·have nq:q≠rh:=by rintro rfl;omega
       have nqg : ∀g,q≠(⟨1,34,g,0⟩:Ref):=fun g e=>by have h:=congrArg Ref.d e;rw[hq]at h;exact absurd h (by simp)
       simp[ah hF4 hlq,ab.get_put,nq,nqg,nq.symm,fun g=>(nqg g).symm]
   ·have hd:tP ops ents (((⟨bh,⟨aQ,aP,aT⟩,aX,⟨⟨⟨bc,ba,bf⟩,bg⟩,au⟩,⟨⟨az,ay,ax⟩,aw⟩,⟨aC,aA⟩,al⟩:bR),x) :: s)=none:=by
     show(if _ then _ else _)=_
     rw[if_neg (fun h=>hd0 h.2)]
    rw[hd]at hQ
    have hfin:=hQ (.tup [.v (.pointer none),aB false]) H4 ⟨hI4.fr,hI4.old,rfl⟩
    simp[hd0]
    all_goals exact hfin
end
end Go.Proofs.YtdbiffjdomokfaaGreat
