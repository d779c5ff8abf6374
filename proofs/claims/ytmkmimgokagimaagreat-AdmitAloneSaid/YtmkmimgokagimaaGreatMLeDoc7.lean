/-
  What a list of operations tells: the history. No statement of a seat is proved here.
-/
import Derived.Test.YtmkmimgokagimaaGreatLeDoc5
set_option linter.unusedVariables false
set_option linter.unusedSimpArgs false
set_option linter.unusedSectionVars false
set_option linter.unnecessarySimpa false
set_option maxRecDepth 100000
namespace Go.Proofs.YtmkmimgokagimaaGreat
open Go.Ab
attribute [local simp] bJ bw bt bG bF cL kN bX bx bD cR cQ cr bY bh ct List.take_of_length_le
def wK(ents:List (eJ × AV))(l:List eJ):List (eJ × AV):=l.foldl (fun e i=>fO i (aB true) e) ents
@[simp] theorem Xl(ents:List (eJ × AV)):wK ents []=ents:=id rfl
@[simp] theorem Lo(ents:List (eJ × AV))(i:eJ)(l:List eJ):wK ents (i :: l)=wK (fO i (aB true) ents) l:=id rfl
theorem JH{K:Type}[DecidableEq K](k:K)(x:AV) : ∀l:List (K × AV),(fO k x l).length≤l.length+1
 | []=>by simp[fO]
 | p :: l=>by
  unfold fO
  split
  ·simp
  ·have:=JH k x l;simp;omega
theorem Ao : ∀(l:List eJ)(ents:List (eJ × AV)),(wK ents l).length≤ents.length+l.length
 | [],ents=>by simp
 | i :: l,ents=>by
  have:=Ao l (fO i (aB true) ents)
  have h2:=JH i (aB true) ents
  simp
  omega
theorem Ho{i:eJ} : ∀ {ents:List (eJ × AV)},ri ents→ri (fO i (aB true) ents)
 | [],h=>by intro p hp;simp[fO]at hp;rw[hp]
 | q :: l,h=>by
  intro p hp
  unfold fO at hp
  split at hp
  ·rcases List.mem_cons.1 hp with rfl | hp
   ·rfl
   ·exact h p (List.mem_cons_of_mem _ hp)
  ·rcases List.mem_cons.1 hp with rfl | hp
   ·exact h _ List.mem_cons_self
   ·exact Ho (fun p hp=>h p (List.mem_cons_of_mem _ hp)) p hp
def iK:List (bz × AV)→List (eJ × AV)→List (bz × AV)→Option (List (bz × AV) × List (eJ × AV))
 | ops,ents,[]=>some (ops,ents)
 | ops,ents,p :: l=>if la p.1=true∧sW ops ents p.1=0 then iK (ops++[p]) (if p.1.kind=1 then wK ents (eK p.1.s) else ents) l else none
structure Ed (H0 H:ad) (rh rm:Ref) (ops:List (bz × AV)) (ents:List (eJ × AV)):Prop where
 fr:Fr H
 box : ∃xo,H.get rh=some ⟨2,[.agg [xo,.mp rm]],false,false⟩∧((xo=cp∧ops=[]) ∨∃g,xo = .cP ⟨1,34,g,0⟩ 0 ops.length none∧H.get ⟨1,34,g,0⟩=some ⟨17,ff ops,true,false⟩)
 map:H.get rm=some (bE (cI xz ents))
 old : ∀q b,q.d=0→H0.get q=some b→H.get q=some b
 ok:ri ents
theorem Ed.dE{H0 H:ad}{rh rm:Ref}{ops:List (bz × AV)}{ents:List (eJ × AV)}(h:Ed H0 H rh rm ops ents):yK H rh ops ents:=by
 obtain⟨xo,h1,h2⟩:=h.box
 rcases h2 with ⟨rfl,rfl⟩ | ⟨g,rfl,h2⟩
 ·exact⟨cp,cp,rm,h1,iP.of (.inl ⟨rfl,rfl⟩) _,h.map⟩
 ·exact⟨_,.ck 17 (ff ops) none,rm,h1,.inr ⟨_,none,false,by rw[vE],h2,rfl,Nat.le_refl _⟩,h.map⟩
theorem Ed.grow{H0 H H':ad}{rh rm:Ref}{ops:List (bz × AV)}{ents:List (eJ × AV)}(h:Ed H0 H rh rm ops ents)(g:bQ H H'):Ed H0 H' rh rm ops ents:=by
 obtain⟨xo,h1,h2⟩:=h.box
 refine⟨g.fr,⟨xo,g.old _ _ h1,?_⟩,g.old _ _ h.map,fun q b hq hb=>g.old _ _ (h.old q b hq hb),h.ok⟩
 rcases h2 with h2 | ⟨g',e,h2⟩
 ·exact .inl h2
 ·exact .inr ⟨g',e,g.old _ _ h2⟩
section
variable{l:List (bz × AV)}{x12:AV}(hx:Sl 17 (ff l) x12)(hall : ∀p∈l,L8 p∧p.1.l.length<1000000)(hl:l.length<10000){rh rm:Ref}(th:rh.t=11)(tm:rm.t=9)(dh:rh.d=1)(dm:rm.d=1){H0:ad}{Q:AV→ad→Prop}
include hx hall hl th tm dh dm
theorem Rr{ops:List (bz × AV)}{ns:List eJ}(hn:ns.length<100000){j:Int}{entsF:List (eJ × AV)}
 (hF : ∀H,Ed H0 H rh rm ops entsF→b7 env Tryz.f172 (0+1) my [(4,.ptr rh 0 0),(14,aI (IntKind.i64.wrap (j+1))),(12,x12),(13,aI l.length)] H Q) :
 ∀(s:List eJ)(k:Nat)(i:Int)(ents:List (eJ × AV)) (H:ad),ns.drop k=s→k≤ns.length→i=k→Ed H0 H rh rm ops ents→wK ents s=entsF →
 b7 env Tryz.f172 (0+1) pb [(44,aI i),(4,.ptr rh 0 0),(42,.ck 4 (lY ns) none),(12,x12),(13,aI l.length),(14,aI j),(43,aI ns.length)] H Q:=by
 have hy:Sl 4 (lY ns) (.ck 4 (lY ns) none):=Sl.mk _ _
 intro s
 induction s with
 | nil =>
  rintro k i ents H hs hk rfl hI he
  obtain rfl:=drop_nil hs hk
  simp at he
  subst he
  have hfin:=hF H hI
  refine AD _ _ _ _ _ _ _ _ _ _ fun g=>?_
  clear hF hI hall
  simp[ah,ai,ae,af,ab, *,wR]
  all_goals exact hfin
 | cons a s ih =>
  rintro k i ents H hs hk rfl hI he
  obtain⟨hlt,hg,hs',hg'⟩:=drop_cons hs
  have e3:=IntWalk.i64_in ((k:Int)+1) (by omega)
  obtain⟨⟨a1,a2,a3⟩,a4⟩:=a
  have hrd:eQ (lY ns) k 0 4 true=some (.agg [a8 a1,aF a2,a8 a3,aI a4]):=by simp[lY,hg',xz]
  have hlt':(k:Int)<ns.length:=by omega
  obtain⟨hFr,⟨xo,h1,h2⟩,h3,h4,h5⟩:=hI
  have l1:(H.get rh).isSome=true:=by rw[h1];rfl
  have l3:(H.get rm).isSome=true:=by rw[h3];rfl
  have hup:=fun(H':ad)(h:H'.get rm=some (bE (cI xz ents)))=>rG Nw KF (t:=264) (et:=4) (by kernel_rfl) h ⟨⟨a1,a2,a3⟩,a4⟩ (aB true)
  have n1:rh≠rm:=by rintro rfl;omega
  have n2:=n1.symm
  have hih:=fun H' h=>ih (k+1) ((k:Int)+1) (fO ⟨⟨a1,a2,a3⟩,a4⟩ (aB true) ents) H' hs' (by omega) (by simp) h (by simpa using he)
  have hst : ∀(H1:ad),Fr H1→H1.get rh=some ⟨2,[.agg [xo,.mp rm]],false,false⟩→H1.get rm=some (bE (cI xz (fO ⟨⟨a1,a2,a3⟩,a4⟩ (aB true) ents)))→(∀q,q≠rm→(H.get q).isSome=true→H1.get q=H.get q)→Ed H0 H1 rh rm ops (fO ⟨⟨a1,a2,a3⟩,a4⟩ (aB true) ents):=by
   intro H1 f1 f2 f3 f4
   refine⟨f1,⟨xo,f2,?_⟩,f3,fun q b hq hb=>?_,Ho h5⟩
   ·rcases h2 with h2 | ⟨g,e,h2⟩
    ·exact .inl h2
    ·exact .inr ⟨g,e,by rw[f4 _ (fun e=>by have h:=congrArg Ref.t e;rw[tm]at h;exact absurd h (by simp)) (by rw[h2];rfl)];exact h2⟩
   ·rw[f4 q (by rintro rfl;omega) (by rw[h4 q b hq hb];rfl)];exact h4 q b hq hb
  have hiK:(xz ⟨⟨a1,a2,a3⟩,a4⟩) = .agg [a8 a1,aF a2,a8 a3,aI a4]:=rfl
  rw[hiK]at hup
  clear ih hF hall h4 h2 hs hs' hg hg' he
  refine AD _ _ _ _ _ _ _ _ _ _ fun g=>?_
  simp[ah,ai,ae,af,ab, *,wR,hy.r,hy.idx]
  refine hih _ (hst _ ?_ ?_ ?_ fun q hq hlq=>?_)
  ·exact by simp(maxDischargeDepth:=12) [ad.ao,aD,aq,Fr.nil,aJ,ah,ai,ae,af,aC,ar,ab, *]
  ·exact by simp(maxDischargeDepth:=12) [ad.ao,aD,aq,Fr.nil,aJ,ah,ai,ae,af,aC,ar,ab, *]
  ·exact by simp(maxDischargeDepth:=12) [ad.ao,aD,aq,Fr.nil,aJ,ah,ai,ae,af,aC,ar,ab, *]
  ·simp[ah hFr hlq,ad.ao,hq]
def Jf(H0:ad)(rh rm:Ref)(n:Nat)(o:Option (List (bz × AV) × List (eJ × AV)))(y:AV)(H:ad):Prop :=
 Fr H∧(∀q b,q.d=0→H0.get q=some b→H.get q=some b)∧match o with
  | none=>y = .tup [.v (.pointer none),aB false]
  | some (ops,ents)=>y = .tup [.ptr rh 0 0,aB true]∧Ed H0 H rh rm ops ents∧ops.length≤n∧ents.length≤64 * ops.length ∧∀p∈ops,L8 p
theorem RG : ∀(s:List (bz × AV)) (k:Nat) (i:Int) (ops:List (bz × AV)) (ents:List (eJ × AV)) (H:ad),l.drop k=s→k≤l.length→i=k→ops.length≤k→ents.length≤64 * ops.length→(∀p∈ops,L8 p)→Ed H0 H rh rm ops ents →
 (∀y H',Jf H0 rh rm l.length (iK ops ents s) y H'→Q y H') →
 b7 env Tryz.f172 (0+1) my [(4,.ptr rh 0 0),(14,aI i),(12,x12),(13,aI l.length)] H Q:=by
 intro s
 induction s with
 | nil =>
  rintro k i ops ents H hs hk rfl ho he hok hI hQ
  obtain rfl:=drop_nil hs hk
  have hfin:=hQ _ H ⟨hI.fr,hI.old,rfl,hI,ho,he,hok⟩
  refine C5 _ _ _ _ _ _ _ fun g=>?_
  clear hQ hI hall
  simp[ah,ai,ae,af,ab, *,uv]
  all_goals exact hfin
 | cons p s ih =>
  rintro k i ops ents H hs hk rfl ho he hok hI hQ
  obtain⟨hlt,hg,hs',hg'⟩:=drop_cons hs
  have e3:=IntWalk.i64_in ((k:Int)+1) (by omega)
  have hp:=hall p (hg ▸ List.getElem_mem hlt)
  obtain⟨⟨ba,⟨aO,aN,aT⟩,aV,⟨⟨⟨aX,aW,aY⟩,aZ⟩,an⟩,⟨⟨ay,ax,aw⟩,au⟩,⟨aA,az⟩,al⟩,x⟩:=p
  obtain⟨⟨hax,hal'⟩,hal⟩:=hp
  simp only at hax hal hal'
  have hrd:eQ (ff l) k 0 17 true=some (.agg [a8 ba,a8 aO,aF aN,a8 aT,aI aV,a8 aX,aF aW,a8 aY,aI aZ,aI an,a8 ay,aF ax,a8 aw,aI au,a8 aA,aF az,x]):=by simp[ff,hg',IW]
  have hlt':(k:Int)<l.length:=by omega
  have hC:=ko ba aO aN aT aV aX aW aY aZ an ay ax aw au aA az hax hal'
  have hH:=hI.dE
  have hFr:=hI.fr
  have hg1 : ∀b1:bP,bQ H ((⟨1,6,H.gen 1 6,0⟩,some b1) :: H):=fun b1=>bQ.cons hFr _ _ _
  have hcell : ∀ {b:bz × AV},(ff l).length=l.length:=vE l
  refine C5 _ _ _ _ _ _ _ fun g=>?_
  have hno : ¬(la (⟨ba,⟨aO,aN,aT⟩,aV,⟨⟨⟨aX,aW,aY⟩,aZ⟩,an⟩,⟨⟨ay,ax,aw⟩,au⟩,⟨aA,az⟩,al⟩:bz)=true∧sW ops ents (⟨ba,⟨aO,aN,aT⟩,aV,⟨⟨⟨aX,aW,aY⟩,aZ⟩,an⟩,⟨⟨ay,ax,aw⟩,au⟩,⟨aA,az⟩,al⟩:bz)=0)→Q (.tup [.v (.pointer none),aB false]) H→True:=fun _ _=>trivial
  clear hno hcell
  cases hb:la (⟨ba,⟨aO,aN,aT⟩,aV,⟨⟨⟨aX,aW,aY⟩,aZ⟩,an⟩,⟨⟨ay,ax,aw⟩,au⟩,⟨aA,az⟩,al⟩:bz) with
  | false =>
   have hd:iK ops ents (((⟨ba,⟨aO,aN,aT⟩,aV,⟨⟨⟨aX,aW,aY⟩,aZ⟩,an⟩,⟨⟨ay,ax,aw⟩,au⟩,⟨aA,az⟩,al⟩:bz),x) :: s)=none:=by simp[iK,hb]
   rw[hd]at hQ
   have hfin:=fun b1=>hQ (.tup [.v (.pointer none),aB false]) _ ⟨(hg1 b1).fr,fun q b hq hb=>(hg1 b1).old _ _ (hI.old q b hq hb),rfl⟩
   clear hQ ih hI hall hH
   simp[ah,ai,ae,af,ab, *,uv,hx.r,hx.idx,hax.r]
   all_goals exact hfin _
  | true =>
   have hfits:=NC 1 (hg1 ⟨17,[.agg [a8 ba,a8 aO,aF aN,a8 aT,aI aV,a8 aX,aF aW,a8 aY,aI aZ,aI an,a8 ay,aF ax,a8 aw,aI au,a8 aA,aF az,x]],false,false⟩).fr (hH.grow (hg1 _)) hI.ok (by omega) hok (by omega) ba aO aN aT aV aX aW aY aZ an ay ax aw au aA az hax hal hb
   have hsp:=qA hb
   simp only at hsp
   have hN:=Iq aX aW aY aZ an hsp
   simp[ah,ai,ae,af,ab, *,uv,hx.r,hx.idx,hax.r]
   refine lg (by kernel_rfl) hfits fun H4 hG4=>?_
   have hI4:=(hI.grow (hg1 _)).grow hG4
   by_cases hd0:sW ops ents (⟨ba,⟨aO,aN,aT⟩,aV,⟨⟨⟨aX,aW,aY⟩,aZ⟩,an⟩,⟨⟨ay,ax,aw⟩,au⟩,⟨aA,az⟩,al⟩:bz)=0
   ·have hd:iK ops ents (((⟨ba,⟨aO,aN,aT⟩,aV,⟨⟨⟨aX,aW,aY⟩,aZ⟩,an⟩,⟨⟨ay,ax,aw⟩,au⟩,⟨aA,az⟩,al⟩:bz),x) :: s)=iK (ops++[((⟨ba,⟨aO,aN,aT⟩,aV,⟨⟨⟨aX,aW,aY⟩,aZ⟩,an⟩,⟨⟨ay,ax,aw⟩,au⟩,⟨aA,az⟩,al⟩:bz),x)]) (if ba=1 then wK ents (eK ⟨⟨⟨aX,aW,aY⟩,aZ⟩,an⟩) else ents) s:=by
     show(if _ then _ else _)=_
     rw[if_pos ⟨hb,hd0⟩]
    rw[hd]at hQ
    have hnl:=Cu hsp
    have hnl2:(eK ⟨⟨⟨aX,aW,aY⟩,aZ⟩,an⟩).length≤64:=by
     have hn:=kV hsp
     simp only at hn
     simp[eK]
     omega
    have hal2:=Ao (eK ⟨⟨⟨aX,aW,aY⟩,aZ⟩,an⟩) ents
    have hok' : ∀p∈ops++[((⟨ba,⟨aO,aN,aT⟩,aV,⟨⟨⟨aX,aW,aY⟩,aZ⟩,an⟩,⟨⟨ay,ax,aw⟩,au⟩,⟨aA,az⟩,al⟩:bz),x)],L8 p:=by
     intro p hp
     rcases List.mem_append.1 hp with hp | hp
     ·exact hok p hp
     ·rw[List.mem_singleton]at hp;subst hp;exact⟨hax,hal'⟩
    obtain⟨hF4,⟨xo,h1,h2⟩,h3,h4,h5⟩:=hI4
    have hb6:=hG4.old ⟨1,6,H.gen 1 6,0⟩ _ (by simp;rfl)
    have lh:(H4.get rh).isSome=true:=by rw[h1];rfl
    have lm:(H4.get rm).isSome=true:=by rw[h3];rfl
    have n34 : ∀g,(⟨1,34,g,0⟩:Ref)≠rh:=fun g e=>by have h:=congrArg Ref.t e;rw[th]at h;exact absurd h (by simp)
    have n34' : ∀g,rh≠(⟨1,34,g,0⟩:Ref):=fun g e=>n34 g e.symm
    have m34 : ∀g,(⟨1,34,g,0⟩:Ref)≠rm:=fun g e=>by have h:=congrArg Ref.t e;rw[tm]at h;exact absurd h (by simp)
    have m34' : ∀g,rm≠(⟨1,34,g,0⟩:Ref):=fun g e=>m34 g e.symm
    have nhm:rh≠rm:=by rintro rfl;omega
    have nmh:=nhm.symm
    have n6:rh≠⟨1,6,H.gen 1 6,0⟩:=fun e=>by have h:=congrArg Ref.t e;rw[th]at h;exact absurd h (by simp)
    have n6':=n6.symm
    have hst : ∀(g m:Nat)(H1:ad),m=ops.length+1→Fr H1→H1.get rh=some ⟨2,[.agg [.cP ⟨1,34,g,0⟩ 0 m none,.mp rm]],false,false⟩→H1.get ⟨1,34,g,0⟩=some ⟨17,ff ops++[.agg [a8 ba,a8 aO,aF aN,a8 aT,aI aV,a8 aX,aF aW,a8 aY,aI aZ,aI an,a8 ay,aF ax,a8 aw,aI au,a8 aA,aF az,x]],true,false⟩→H1.get rm=some (bE (cI xz ents)) →
     (∀q,q.d=0→(H4.get q).isSome=true→H1.get q=H4.get q)→Ed H0 H1 rh rm (ops++[((⟨ba,⟨aO,aN,aT⟩,aV,⟨⟨⟨aX,aW,aY⟩,aZ⟩,an⟩,⟨⟨ay,ax,aw⟩,au⟩,⟨aA,az⟩,al⟩:bz),x)]) ents:=by
     intro g m H1 hm f1 f2 f3 f4 f5
     subst hm
     refine⟨f1,⟨_,f2,.inr ⟨g,by simp,by rw[f3];simp[ff,IW]⟩⟩,f4,fun q b hq hb=>?_,h5⟩
     rw[f5 q hq (by rw[h4 q b hq hb];rfl)]
     exact h4 q b hq hb
    have hcont : ∀(H7:ad),Ed H0 H7 rh rm (ops++[((⟨ba,⟨aO,aN,aT⟩,aV,⟨⟨⟨aX,aW,aY⟩,aZ⟩,an⟩,⟨⟨ay,ax,aw⟩,au⟩,⟨aA,az⟩,al⟩:bz),x)]) ents→(if ba=1 then b7 env Tryz.f172 (0+1) pb [(44,aI 0),(4,.ptr rh 0 0),(42,.ck 4 (lY (eK ⟨⟨⟨aX,aW,aY⟩,aZ⟩,an⟩)) none),(12,x12),(13,aI l.length),(14,aI k),(43,aI (eK ⟨⟨⟨aX,aW,aY⟩,aZ⟩,an⟩).length)] H7 Q
     else b7 env Tryz.f172 (0+1) my [(4,.ptr rh 0 0),(14,aI ((k:Int)+1)),(12,x12),(13,aI l.length)] H7 Q):=by
     intro H7 hI7
     split
     ·rename_i hk1
      rw[if_pos hk1]at hQ
      exact Rr hx hall hl th tm dh dm hnl (fun H' hI'=>by rw[e3];exact ih (k+1) _ _ _ H' hs' (by omega) (by simp) (by simp;omega) (by simp;omega) hok' hI' hQ) _ 0 0 ents H7 rfl (by omega) rfl hI7 rfl
     ·rename_i hk1
      rw[if_neg hk1]at hQ
      exact ih (k+1) _ _ _ H7 hs' (by omega) (by simp) (by simp;omega) (by simp;omega) hok' hI7 hQ
    clear hall hQ ih hI hH hfits hC hok hok' hal2 hs hs' hg hg' h4 h5 hG4 hrd hd
    rcases h2 with ⟨rfl,rfl⟩ | ⟨g,rfl,h2⟩
    ·have hst':=hst (H4.gen 1 34) 1
     clear hst
     have heo:ff []=[]:=rfl
     by_cases hk1:ba=1
     ·subst hk1
      have hc:=fun H7 h=>hcont H7 h
      simp only[if_true]at hc
      clear hcont
      simp[ah,ai,ae,af,ab, *,hax.r]
      refine hc _ (hst' _ rfl ?_ ?_ ?_ ?_ fun q hq hlq=>?_)
      ·exact by simp(maxDischargeDepth:=12) [ad.ao,aD,aq,Fr.nil,aJ,ah,ai,ae,af,aC,ar,ab, *]
      ·exact by simp(maxDischargeDepth:=12) [ad.ao,aD,aq,Fr.nil,aJ,ah,ai,ae,af,aC,ar,ab, *]
      ·exact by simp(maxDischargeDepth:=12) [ad.ao,aD,aq,Fr.nil,aJ,ah,ai,ae,af,aC,ar,ab, *]
      ·exact by simp(maxDischargeDepth:=12) [ad.ao,aD,aq,Fr.nil,aJ,ah,ai,ae,af,aC,ar,ab, *]
      ·have nq:q≠rh:=by rintro rfl;omega
       have nqg : ∀g,q≠(⟨1,34,g,0⟩:Ref):=fun g e=>by have h:=congrArg Ref.d e;rw[hq]at h;exact absurd h (by simp)
       simp[ah hF4 hlq,ad.ao,nq,nqg,nq.symm,fun g=>(nqg g).symm]
     ·have hc:=fun H7 h=>hcont H7 h
      simp only[hk1,if_false]at hc
      clear hcont
      simp[ah,ai,ae,af,ab, *,hax.r]
      refine hc _ (hst' _ rfl ?_ ?_ ?_ ?_ fun q hq hlq=>?_)
      ·exact by simp(maxDischargeDepth:=12) [ad.ao,aD,aq,Fr.nil,aJ,ah,ai,ae,af,aC,ar,ab, *]
      ·exact by simp(maxDischargeDepth:=12) [ad.ao,aD,aq,Fr.nil,aJ,ah,ai,ae,af,aC,ar,ab, *]
      ·exact by simp(maxDischargeDepth:=12) [ad.ao,aD,aq,Fr.nil,aJ,ah,ai,ae,af,aC,ar,ab, *]
      ·exact by simp(maxDischargeDepth:=12) [ad.ao,aD,aq,Fr.nil,aJ,ah,ai,ae,af,aC,ar,ab, *]
      ·have nq:q≠rh:=by rintro rfl;omega
       have nqg : ∀g,q≠(⟨1,34,g,0⟩:Ref):=fun g e=>by have h:=congrArg Ref.d e;rw[hq]at h;exact absurd h (by simp)
       simp[ah hF4 hlq,ad.ao,nq,nqg,nq.symm,fun g=>(nqg g).symm]
    ·have hst':=hst (H4.gen 1 34) (ops.length+1)
     clear hst
     have l34:(H4.get ⟨1,34,g,0⟩).isSome=true:=by rw[h2];rfl
     have f4:pr 17 112 ops.length true none (some ⟨17,ff ops,true,false⟩) (some [.agg [a8 ba,a8 aO,aF aN,a8 aT,aI aV,a8 aX,aF aW,a8 aY,aI aZ,aI an,a8 ay,aF ax,a8 aw,aI au,a8 aA,aF az,x]]):=by
      simp;omega
     by_cases hk1:ba=1
     ·subst hk1
      have hc:=fun H7 h=>hcont H7 h
      simp only[if_true]at hc
      clear hcont
      simp[ah,ai,ae,af,ab, *,hax.r]
      refine hc _ (hst' _ rfl ?_ ?_ ?_ ?_ fun q hq hlq=>?_)
      ·exact by simp(maxDischargeDepth:=12) [ad.ao,aD,aq,Fr.nil,aJ,ah,ai,ae,af,aC,ar,ab, *]
      ·exact by simp(maxDischargeDepth:=12) [ad.ao,aD,aq,Fr.nil,aJ,ah,ai,ae,af,aC,ar,ab, *]
      ·exact by simp(maxDischargeDepth:=12) [ad.ao,aD,aq,Fr.nil,aJ,ah,ai,ae,af,aC,ar,ab, *]
      ·exact by simp(maxDischargeDepth:=12) [ad.ao,aD,aq,Fr.nil,aJ,ah,ai,ae,af,aC,ar,ab, *]
      ·have nq:q≠rh:=by rintro rfl;omega
       have nqg : ∀g,q≠(⟨1,34,g,0⟩:Ref):=fun g e=>by have h:=congrArg Ref.d e;rw[hq]at h;exact absurd h (by simp)
       simp[ah hF4 hlq,ad.ao,nq,nqg,nq.symm,fun g=>(nqg g).symm]
     ·have hc:=fun H7 h=>hcont H7 h
      simp only[hk1,if_false]at hc
      clear hcont
      simp[ah,ai,ae,af,ab, *,hax.r]
      refine hc _ (hst' _ rfl ?_ ?_ ?_ ?_ fun q hq hlq=>?_)
      ·exact by simp(maxDischargeDepth:=12) [ad.ao,aD,aq,Fr.nil,aJ,ah,ai,ae,af,aC,ar,ab, *]
      ·exact by simp(maxDischargeDepth:=12) [ad.ao,aD,aq,Fr.nil,aJ,ah,ai,ae,af,aC,ar,ab, *]
      ·exact by simp(maxDischargeDepth:=12) [ad.ao,aD,aq,Fr.nil,aJ,ah,ai,ae,af,aC,ar,ab, *]
      ·exact by simp(maxDischargeDepth:=12) [ad.ao,aD,aq,Fr.nil,aJ,ah,ai,ae,af,aC,ar,ab, *]
      ·have nq:q≠rh:=by rintro rfl;omega
       have nqg : ∀g,q≠(⟨1,34,g,0⟩:Ref):=fun g e=>by have h:=congrArg Ref.d e;rw[hq]at h;exact absurd h (by simp)
       simp[ah hF4 hlq,ad.ao,nq,nqg,nq.symm,fun g=>(nqg g).symm]
   ·have hd:iK ops ents (((⟨ba,⟨aO,aN,aT⟩,aV,⟨⟨⟨aX,aW,aY⟩,aZ⟩,an⟩,⟨⟨ay,ax,aw⟩,au⟩,⟨aA,az⟩,al⟩:bz),x) :: s)=none:=by
     show(if _ then _ else _)=_
     rw[if_neg (fun h=>hd0 h.2)]
    rw[hd]at hQ
    have hfin:=hQ (.tup [.v (.pointer none),aB false]) H4 ⟨hI4.fr,hI4.old,rfl⟩
    simp[hd0]
    all_goals exact hfin
end
end Go.Proofs.YtmkmimgokagimaaGreat
namespace Go.Proofs.YtmkmimgokagimaaGreat
open Go.Ab
attribute [local simp] bJ bw bt bG bF cL kN bX bx bD cR cQ cr bY bh ct List.take_of_length_le
@[simp] theorem aaF(r:Ref):(AV.mp r).cells=[.mp r]:=id rfl
@[simp] theorem ad7(r:Ref):(AV.mp r).one=true:=id rfl
section
variable{l:List (bz × AV)}{x0:AV}(hx:Sl 17 (ff l) x0)(hall : ∀p∈l,L8 p∧p.1.l.length<1000000)(hl:l.length<10000)
include hx hall hl
theorem RF{H:ad}(hF:Fr H) : ∃y H',bO env 0 (.fn 172) [x0] H=some (y,H') ∧∃rh rm,Jf H rh rm l.length (iK [] [] l) y H':=by
 refine iT (Q:=fun y H' =>∃rh rm,Jf H rh rm l.length (iK [] [] l) y H') (fn:=Tryz.f172) (c:=za) (by kernel_rfl) (by kernel_rfl) (by kernel_rfl) (by kernel_rfl) (by kernel_rfl) ?_
 refine NU _ _ _ _ fun g=>?_
 have hfin:=fun H2 hI=>RG hx hall hl (rh:=⟨1,11,H.gen 1 11,0⟩) (rm:=⟨1,9,H.gen 1 9,0⟩) rfl rfl rfl rfl (H0:=H) (Q:=fun y H' =>∃rh rm,Jf H rh rm l.length (iK [] [] l) y H') l 0 0 [] [] H2 rfl (by omega) rfl (by simp) (by simp) (by intro p hp;cases hp) hI (fun y H' h=>⟨_,_,h⟩)
 clear hall
 simp[ah,ai,ae,af,ab, *,HW,hx.r]
 refine hfin _ ⟨?_,⟨cp,?_,.inl ⟨rfl,rfl⟩⟩,?_,fun q b hq hb=>?_,fun p hp=>nomatch hp⟩
 ·exact by simp(maxDischargeDepth:=12) [ad.ao,aD,aq,Fr.nil,aJ,ah,ai,ae,af,aC,ar,ab, *]
 ·simp
 ·simp[cI]
 ·have lq:(H.get q).isSome=true:=by rw[hb];rfl
  simp[ah hF lq,hb]
def kz(l:List (bz × AV))(o:bz):Int:=match iK [] [] l with
 | none=>8
 | some (ops,ents)=>if la o then sW ops ents o else 8
theorem Oj(ba:UInt8)(aO:UInt8)(aN:UInt32)(aT:UInt8)(aV:Int)(aX:UInt8)(aW:UInt32)(aY:UInt8)(aZ:Int)(an:Int)(ay:UInt8)(ax:UInt32)(aw:UInt8)(au:Int)(aA:UInt8)(az:UInt32){x:AV}{al:List Int}(hax:Sl 1 (rows al) x)(hal:al.length<1000000):bj env 137 [x0,.agg [a8 ba,a8 aO,aF aN,a8 aT,aI aV,a8 aX,aF aW,a8 aY,aI aZ,aI an,a8 ay,aF ax,a8 aw,aI au,a8 aA,aF az,x]]=some (aI (kz l (⟨ba,⟨aO,aN,aT⟩,aV,⟨⟨⟨aX,aW,aY⟩,aZ⟩,an⟩,⟨⟨ay,ax,aw⟩,au⟩,⟨aA,az⟩,al⟩:bz))):=by
 refine aG (fn:=Tryz.f137) (c:=Dr) rfl (by kernel_rfl) (by kernel_rfl) (by kernel_rfl) (by kernel_rfl) ?_;refine Jv _ _ _ _ fun g=>?_
 have hC:=ko ba aO aN aT aV aX aW aY aZ an ay ax aw au aA az hax (by omega)
 obtain⟨y,H2,h1,rh,rm,hF2,hold,hm⟩:=RF hx hall hl (H:=[(⟨0,3,0,0⟩,some ⟨17,[.agg [a8 ba,a8 aO,aF aN,a8 aT,aI aV,a8 aX,aF aW,a8 aY,aI aZ,aI an,a8 ay,aF ax,a8 aw,aI au,a8 aA,aF az,x]],false,false⟩)]) (by simp[aD,aq,Fr.nil])
 have hb3:=hold ⟨0,3,0,0⟩ _ rfl rfl
 have hw:bo env true (bj env) (bO env 0) [(⟨0,3,0,0⟩,some ⟨17,[.agg [a8 ba,a8 aO,aF aN,a8 aT,aI aV,a8 aX,aF aW,a8 aY,aI aZ,aI an,a8 ay,aF ax,a8 aw,aI au,a8 aA,aF az,x]],false,false⟩)] ⟨0,10,0,0⟩ (some (.fn (.func 172) [] [])) [x0]=some (y,H2):=by
  rw[CV (by kernel_rfl)]
  exact h1
 unfold kz
 cases hd:iK [] [] l with
 | none =>
  rw[hd]at hm
  dsimp only at hm
  subst hm
  clear hold hall
  simp[ah,ai,ae,af,ab, *,uw,hx.r,hax.r,hw]
 | some p =>
  obtain⟨ops,ents⟩:=p
  rw[hd]at hm
  dsimp only at hm
  obtain⟨rfl,hI,ho,he,hok⟩:=hm
  clear hold
  cases hb:la (⟨ba,⟨aO,aN,aT⟩,aV,⟨⟨⟨aX,aW,aY⟩,aZ⟩,an⟩,⟨⟨ay,ax,aw⟩,au⟩,⟨aA,az⟩,al⟩:bz) with
  | false =>
   clear hall hI
   simp[ah,ai,ae,af,ab, *,uw,hx.r,hax.r,hw]
  | true =>
   have hf:=NC 0 hF2 hI.dE hI.ok (by omega) hok (by omega) ba aO aN aT aV aX aW aY aZ an ay ax aw au aA az hax hal hb
   clear hall hI
   simp[ah,ai,ae,af,ab, *,uw,hx.r,hax.r,hw]
   refine lg (by kernel_rfl) hf fun H4 hG=>?_
   simp
end
end Go.Proofs.YtmkmimgokagimaaGreat
