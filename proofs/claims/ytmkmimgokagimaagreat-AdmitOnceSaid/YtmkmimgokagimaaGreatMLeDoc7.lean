/-
  What a list of operations tells: the history. No statement of a seat is proved here.
-/
import Derived.Test.YtmkmimgokagimaaGreatLeDoc5
set_option linter.unusedVariables false
set_option linter.unusedSimpArgs false
set_option linter.unusedSectionVars false
set_option linter.unnecessarySimpa false
set_option maxRecDepth 100000
namespace Go.Proofs.YtmkmimgokagimaaGreat
open Go.Ab
attribute [local simp] bj aL aF bg bf keep thr bx aT bc da cZ cJ bD aD bM List.take_of_length_le
def Au(ents:List (Idd × AV))(l:List Idd):List (Idd × AV):=l.foldl (fun e i=>setK i (aB true) e) ents
@[simp] theorem QU(ents:List (Idd × AV)):Au ents []=ents:=id rfl
@[simp] theorem PY(ents:List (Idd × AV))(i:Idd)(l:List Idd):Au ents (i :: l)=Au (setK i (aB true) ents) l:=id rfl
theorem FX{K:Type}[DecidableEq K](k:K)(x:AV) : ∀l:List (K × AV),(setK k x l).length≤l.length+1
 | []=>by simp[setK]
 | p :: l=>by
  unfold setK
  split
  ·simp
  ·have:=FX k x l;simp;omega
theorem BR : ∀(l:List Idd)(ents:List (Idd × AV)),(Au ents l).length≤ents.length+l.length
 | [],ents=>by simp
 | i :: l,ents=>by
  have:=BR l (setK i (aB true) ents)
  have h2:=FX i (aB true) ents
  simp
  omega
theorem Dp{i:Idd} : ∀ {ents:List (Idd × AV)},qx ents→qx (setK i (aB true) ents)
 | [],h=>by intro p hp;simp[setK]at hp;rw[hp]
 | q :: l,h=>by
  intro p hp
  unfold setK at hp
  split at hp
  ·rcases List.mem_cons.1 hp with rfl | hp
   ·rfl
   ·exact h p (List.mem_cons_of_mem _ hp)
  ·rcases List.mem_cons.1 hp with rfl | hp
   ·exact h _ List.mem_cons_self
   ·exact Dp (fun p hp=>h p (List.mem_cons_of_mem _ hp)) p hp
def yf:List (Opn × AV)→List (Idd × AV)→List (Opn × AV)→Option (List (Opn × AV) × List (Idd × AV))
 | ops,ents,[]=>some (ops,ents)
 | ops,ents,p :: l=>if opB p.1=true∧docE ops ents p.1=0 then yf (ops++[p]) (if p.1.kind=1 then Au ents (gy p.1.s) else ents) l else none
structure DInv (H0 H:Heap) (rh rm:Ref) (ops:List (Opn × AV)) (ents:List (Idd × AV)):Prop where
 fr:Fr H
 box : ∃xo,H.get rh=some ⟨2,[.agg [xo,.mp rm]],false,false⟩∧((xo=aNil∧ops=[]) ∨∃g,xo = .osl ⟨1,34,g,0⟩ 0 ops.length none∧H.get ⟨1,34,g,0⟩=some ⟨17,fZ ops,true,false⟩)
 map:H.get rm=some (bm (cX iddK ents))
 old : ∀q b,q.d=0→H0.get q=some b→H.get q=some b
 ok:qx ents
theorem DInv.hist{H0 H:Heap}{rh rm:Ref}{ops:List (Opn × AV)}{ents:List (Idd × AV)}(h:DInv H0 H rh rm ops ents):HistAt H rh ops ents:=by
 obtain⟨xo,h1,h2⟩:=h.box
 rcases h2 with ⟨rfl,rfl⟩ | ⟨g,rfl,h2⟩
 ·exact⟨aNil,aNil,rm,h1,jQ.of (.inl ⟨rfl,rfl⟩) _,h.map⟩
 ·exact⟨_,.isl 17 (fZ ops) none,rm,h1,.inr ⟨_,none,false,by rw[rG],h2,rfl,Nat.le_refl _⟩,h.map⟩
theorem DInv.grow{H0 H H':Heap}{rh rm:Ref}{ops:List (Opn × AV)}{ents:List (Idd × AV)}(h:DInv H0 H rh rm ops ents)(g:Grow H H'):DInv H0 H' rh rm ops ents:=by
 obtain⟨xo,h1,h2⟩:=h.box
 refine⟨g.fr,⟨xo,g.old _ _ h1,?_⟩,g.old _ _ h.map,fun q b hq hb=>g.old _ _ (h.old q b hq hb),h.ok⟩
 rcases h2 with h2 | ⟨g',e,h2⟩
 ·exact .inl h2
 ·exact .inr ⟨g',e,g.old _ _ h2⟩
section
variable{l:List (Opn × AV)}{x12:AV}(hx:Sl 17 (fZ l) x12)(hall : ∀p∈l,okO p∧p.1.l.length<1000000)(hl:l.length<10000){rh rm:Ref}(th:rh.t=11)(tm:rm.t=9)(dh:rh.d=1)(dm:rm.d=1){H0:Heap}{Q:AV→Heap→Prop}
include hx hall hl th tm dh dm
theorem Mc{ops:List (Opn × AV)}{ns:List Idd}(hn:ns.length<100000){j:Int}{entsF:List (Idd × AV)}
 (hF : ∀H,DInv H0 H rh rm ops entsF→GoL env Tryz.f172 (0+1) kj [(4,.ptr rh 0 0),(14,aI (IntKind.i64.wrap (j+1))),(12,x12),(13,aI l.length)] H Q) :
 ∀(s:List Idd)(k:Nat)(i:Int)(ents:List (Idd × AV)) (H:Heap),ns.drop k=s→k≤ns.length→i=k→DInv H0 H rh rm ops ents→Au ents s=entsF →
 GoL env Tryz.f172 (0+1) mD [(44,aI i),(4,.ptr rh 0 0),(42,.isl 4 (mV ns) none),(12,x12),(13,aI l.length),(14,aI j),(43,aI ns.length)] H Q:=by
 have hy:Sl 4 (mV ns) (.isl 4 (mV ns) none):=Sl.mk _ _
 intro s
 induction s with
 | nil =>
  rintro k i ents H hs hk rfl hI he
  obtain rfl:=drop_nil hs hk
  simp at he
  subst he
  have hfin:=hF H hI
  refine xj _ _ _ _ _ _ _ _ _ _ fun g=>?_
  clear hF hI hall
  simp[af,ah,ad,ae,ab, *,sx]
  all_goals exact hfin
 | cons a s ih =>
  rintro k i ents H hs hk rfl hI he
  obtain⟨hlt,hg,hs',hg'⟩:=drop_cons hs
  have e3:=IntWalk.i64_in ((k:Int)+1) (by omega)
  obtain⟨⟨a1,a2,a3⟩,a4⟩:=a
  have hrd:fD (mV ns) k 0 4 true=some (.agg [a8 a1,a32 a2,a8 a3,aI a4]):=by simp[mV,hg',iddK]
  have hlt':(k:Int)<ns.length:=by omega
  obtain⟨hFr,⟨xo,h1,h2⟩,h3,h4,h5⟩:=hI
  have l1:(H.get rh).isSome=true:=by rw[h1];rfl
  have l3:(H.get rm).isSome=true:=by rw[h3];rfl
  have hup:=fun(H':Heap)(h:H'.get rm=some (bm (cX iddK ents)))=>od JR Gs (t:=264) (et:=4) (by kernel_rfl) h ⟨⟨a1,a2,a3⟩,a4⟩ (aB true)
  have n1:rh≠rm:=by rintro rfl;omega
  have n2:=n1.symm
  have hih:=fun H' h=>ih (k+1) ((k:Int)+1) (setK ⟨⟨a1,a2,a3⟩,a4⟩ (aB true) ents) H' hs' (by omega) (by simp) h (by simpa using he)
  have hst : ∀(H1:Heap),Fr H1→H1.get rh=some ⟨2,[.agg [xo,.mp rm]],false,false⟩→H1.get rm=some (bm (cX iddK (setK ⟨⟨a1,a2,a3⟩,a4⟩ (aB true) ents)))→(∀q,q≠rm→(H.get q).isSome=true→H1.get q=H.get q)→DInv H0 H1 rh rm ops (setK ⟨⟨a1,a2,a3⟩,a4⟩ (aB true) ents):=by
   intro H1 f1 f2 f3 f4
   refine⟨f1,⟨xo,f2,?_⟩,f3,fun q b hq hb=>?_,Dp h5⟩
   ·rcases h2 with h2 | ⟨g,e,h2⟩
    ·exact .inl h2
    ·exact .inr ⟨g,e,by rw[f4 _ (fun e=>by have h:=congrArg Ref.t e;rw[tm]at h;exact absurd h (by simp)) (by rw[h2];rfl)];exact h2⟩
   ·rw[f4 q (by rintro rfl;omega) (by rw[h4 q b hq hb];rfl)];exact h4 q b hq hb
  have hiK:(iddK ⟨⟨a1,a2,a3⟩,a4⟩) = .agg [a8 a1,a32 a2,a8 a3,aI a4]:=rfl
  rw[hiK]at hup
  clear ih hF hall h4 h2 hs hs' hg hg' he
  refine xj _ _ _ _ _ _ _ _ _ _ fun g=>?_
  simp[af,ah,ad,ae,ab, *,sx,hy.r,hy.idx]
  refine hih _ (hst _ ?_ ?_ ?_ fun q hq hlq=>?_)
  ·exact by simp(maxDischargeDepth:=12) [Heap.an,au,ak,Fr.nil,az,af,ah,ad,ae,ar,ao,ab, *]
  ·exact by simp(maxDischargeDepth:=12) [Heap.an,au,ak,Fr.nil,az,af,ah,ad,ae,ar,ao,ab, *]
  ·exact by simp(maxDischargeDepth:=12) [Heap.an,au,ak,Fr.nil,az,af,ah,ad,ae,ar,ao,ab, *]
  ·simp[af hFr hlq,Heap.an,hq]
def GK(H0:Heap)(rh rm:Ref)(n:Nat)(o:Option (List (Opn × AV) × List (Idd × AV)))(y:AV)(H:Heap):Prop :=
 Fr H∧(∀q b,q.d=0→H0.get q=some b→H.get q=some b)∧match o with
  | none=>y = .tup [.v (.pointer none),aB false]
  | some (ops,ents)=>y = .tup [.ptr rh 0 0,aB true]∧DInv H0 H rh rm ops ents∧ops.length≤n∧ents.length≤64 * ops.length ∧∀p∈ops,okO p
theorem Mo : ∀(s:List (Opn × AV)) (k:Nat) (i:Int) (ops:List (Opn × AV)) (ents:List (Idd × AV)) (H:Heap),l.drop k=s→k≤l.length→i=k→ops.length≤k→ents.length≤64 * ops.length→(∀p∈ops,okO p)→DInv H0 H rh rm ops ents →
 (∀y H',GK H0 rh rm l.length (yf ops ents s) y H'→Q y H') →
 GoL env Tryz.f172 (0+1) kj [(4,.ptr rh 0 0),(14,aI i),(12,x12),(13,aI l.length)] H Q:=by
 intro s
 induction s with
 | nil =>
  rintro k i ops ents H hs hk rfl ho he hok hI hQ
  obtain rfl:=drop_nil hs hk
  have hfin:=hQ _ H ⟨hI.fr,hI.old,rfl,hI,ho,he,hok⟩
  refine yN _ _ _ _ _ _ _ fun g=>?_
  clear hQ hI hall
  simp[af,ah,ad,ae,ab, *,qE]
  all_goals exact hfin
 | cons p s ih =>
  rintro k i ops ents H hs hk rfl ho he hok hI hQ
  obtain⟨hlt,hg,hs',hg'⟩:=drop_cons hs
  have e3:=IntWalk.i64_in ((k:Int)+1) (by omega)
  have hp:=hall p (hg ▸ List.getElem_mem hlt)
  obtain⟨⟨a_1,⟨a_2,a_3,a_4⟩,a_5,⟨⟨⟨a_6,a_7,a_8⟩,a_9⟩,a_10⟩,⟨⟨a_11,a_12,a_13⟩,a_14⟩,⟨a_15,a_16⟩,al⟩,x⟩:=p
  obtain⟨⟨hax,hal'⟩,hal⟩:=hp
  simp only at hax hal hal'
  have hrd:fD (fZ l) k 0 17 true=some (.agg [a8 a_1,a8 a_2,a32 a_3,a8 a_4,aI a_5,a8 a_6,a32 a_7,a8 a_8,aI a_9,aI a_10,a8 a_11,a32 a_12,a8 a_13,aI a_14,a8 a_15,a32 a_16,x]):=by simp[fZ,hg',encO]
  have hlt':(k:Int)<l.length:=by omega
  have hC:=iN a_1 a_2 a_3 a_4 a_5 a_6 a_7 a_8 a_9 a_10 a_11 a_12 a_13 a_14 a_15 a_16 hax hal'
  have hH:=hI.hist
  have hFr:=hI.fr
  have hg1 : ∀b1:Blk,Grow H ((⟨1,6,H.gen 1 6,0⟩,some b1) :: H):=fun b1=>Grow.cons hFr _ _ _
  have hcell : ∀ {b:Opn × AV},(fZ l).length=l.length:=rG l
  refine yN _ _ _ _ _ _ _ fun g=>?_
  have hno : ¬(opB (⟨a_1,⟨a_2,a_3,a_4⟩,a_5,⟨⟨⟨a_6,a_7,a_8⟩,a_9⟩,a_10⟩,⟨⟨a_11,a_12,a_13⟩,a_14⟩,⟨a_15,a_16⟩,al⟩:Opn)=true∧docE ops ents (⟨a_1,⟨a_2,a_3,a_4⟩,a_5,⟨⟨⟨a_6,a_7,a_8⟩,a_9⟩,a_10⟩,⟨⟨a_11,a_12,a_13⟩,a_14⟩,⟨a_15,a_16⟩,al⟩:Opn)=0)→Q (.tup [.v (.pointer none),aB false]) H→True:=fun _ _=>trivial
  clear hno hcell
  cases hb:opB (⟨a_1,⟨a_2,a_3,a_4⟩,a_5,⟨⟨⟨a_6,a_7,a_8⟩,a_9⟩,a_10⟩,⟨⟨a_11,a_12,a_13⟩,a_14⟩,⟨a_15,a_16⟩,al⟩:Opn) with
  | false =>
   have hd:yf ops ents (((⟨a_1,⟨a_2,a_3,a_4⟩,a_5,⟨⟨⟨a_6,a_7,a_8⟩,a_9⟩,a_10⟩,⟨⟨a_11,a_12,a_13⟩,a_14⟩,⟨a_15,a_16⟩,al⟩:Opn),x) :: s)=none:=by simp[yf,hb]
   rw[hd]at hQ
   have hfin:=fun b1=>hQ (.tup [.v (.pointer none),aB false]) _ ⟨(hg1 b1).fr,fun q b hq hb=>(hg1 b1).old _ _ (hI.old q b hq hb),rfl⟩
   clear hQ ih hI hall hH
   simp[af,ah,ad,ae,ab, *,qE,hx.r,hx.idx,hax.r]
   all_goals exact hfin _
  | true =>
   have hfits:=J7 1 (hg1 ⟨17,[.agg [a8 a_1,a8 a_2,a32 a_3,a8 a_4,aI a_5,a8 a_6,a32 a_7,a8 a_8,aI a_9,aI a_10,a8 a_11,a32 a_12,a8 a_13,aI a_14,a8 a_15,a32 a_16,x]],false,false⟩).fr (hH.grow (hg1 _)) hI.ok (by omega) hok (by omega) a_1 a_2 a_3 a_4 a_5 a_6 a_7 a_8 a_9 a_10 a_11 a_12 a_13 a_14 a_15 a_16 hax hal hb
   have hsp:=sQ hb
   simp only at hsp
   have hN:=Eu a_6 a_7 a_8 a_9 a_10 hsp
   simp[af,ah,ad,ae,ab, *,qE,hx.r,hx.idx,hax.r]
   refine jm (by kernel_rfl) hfits fun H4 hG4=>?_
   have hI4:=(hI.grow (hg1 _)).grow hG4
   by_cases hd0:docE ops ents (⟨a_1,⟨a_2,a_3,a_4⟩,a_5,⟨⟨⟨a_6,a_7,a_8⟩,a_9⟩,a_10⟩,⟨⟨a_11,a_12,a_13⟩,a_14⟩,⟨a_15,a_16⟩,al⟩:Opn)=0
   ·have hd:yf ops ents (((⟨a_1,⟨a_2,a_3,a_4⟩,a_5,⟨⟨⟨a_6,a_7,a_8⟩,a_9⟩,a_10⟩,⟨⟨a_11,a_12,a_13⟩,a_14⟩,⟨a_15,a_16⟩,al⟩:Opn),x) :: s)=yf (ops++[((⟨a_1,⟨a_2,a_3,a_4⟩,a_5,⟨⟨⟨a_6,a_7,a_8⟩,a_9⟩,a_10⟩,⟨⟨a_11,a_12,a_13⟩,a_14⟩,⟨a_15,a_16⟩,al⟩:Opn),x)]) (if a_1=1 then Au ents (gy ⟨⟨⟨a_6,a_7,a_8⟩,a_9⟩,a_10⟩) else ents) s:=by
     show(if _ then _ else _)=_
     rw[if_pos ⟨hb,hd0⟩]
    rw[hd]at hQ
    have hnl:=zn hsp
    have hnl2:(gy ⟨⟨⟨a_6,a_7,a_8⟩,a_9⟩,a_10⟩).length≤64:=by
     have hn:=lX hsp
     simp only at hn
     simp[gy]
     omega
    have hal2:=BR (gy ⟨⟨⟨a_6,a_7,a_8⟩,a_9⟩,a_10⟩) ents
    have hok' : ∀p∈ops++[((⟨a_1,⟨a_2,a_3,a_4⟩,a_5,⟨⟨⟨a_6,a_7,a_8⟩,a_9⟩,a_10⟩,⟨⟨a_11,a_12,a_13⟩,a_14⟩,⟨a_15,a_16⟩,al⟩:Opn),x)],okO p:=by
     intro p hp
     rcases List.mem_append.1 hp with hp | hp
     ·exact hok p hp
     ·rw[List.mem_singleton]at hp;subst hp;exact⟨hax,hal'⟩
    obtain⟨hF4,⟨xo,h1,h2⟩,h3,h4,h5⟩:=hI4
    have hb6:=hG4.old ⟨1,6,H.gen 1 6,0⟩ _ (by simp;rfl)
    have lh:(H4.get rh).isSome=true:=by rw[h1];rfl
    have lm:(H4.get rm).isSome=true:=by rw[h3];rfl
    have n34 : ∀g,(⟨1,34,g,0⟩:Ref)≠rh:=fun g e=>by have h:=congrArg Ref.t e;rw[th]at h;exact absurd h (by simp)
    have n34' : ∀g,rh≠(⟨1,34,g,0⟩:Ref):=fun g e=>n34 g e.symm
    have m34 : ∀g,(⟨1,34,g,0⟩:Ref)≠rm:=fun g e=>by have h:=congrArg Ref.t e;rw[tm]at h;exact absurd h (by simp)
    have m34' : ∀g,rm≠(⟨1,34,g,0⟩:Ref):=fun g e=>m34 g e.symm
    have nhm:rh≠rm:=by rintro rfl;omega
    have nmh:=nhm.symm
    have n6:rh≠⟨1,6,H.gen 1 6,0⟩:=fun e=>by have h:=congrArg Ref.t e;rw[th]at h;exact absurd h (by simp)
    have n6':=n6.symm
    have hst : ∀(g m:Nat)(H1:Heap),m=ops.length+1→Fr H1→H1.get rh=some ⟨2,[.agg [.osl ⟨1,34,g,0⟩ 0 m none,.mp rm]],false,false⟩→H1.get ⟨1,34,g,0⟩=some ⟨17,fZ ops++[.agg [a8 a_1,a8 a_2,a32 a_3,a8 a_4,aI a_5,a8 a_6,a32 a_7,a8 a_8,aI a_9,aI a_10,a8 a_11,a32 a_12,a8 a_13,aI a_14,a8 a_15,a32 a_16,x]],true,false⟩→H1.get rm=some (bm (cX iddK ents)) →
     (∀q,q.d=0→(H4.get q).isSome=true→H1.get q=H4.get q)→DInv H0 H1 rh rm (ops++[((⟨a_1,⟨a_2,a_3,a_4⟩,a_5,⟨⟨⟨a_6,a_7,a_8⟩,a_9⟩,a_10⟩,⟨⟨a_11,a_12,a_13⟩,a_14⟩,⟨a_15,a_16⟩,al⟩:Opn),x)]) ents:=by
     intro g m H1 hm f1 f2 f3 f4 f5
     subst hm
     refine⟨f1,⟨_,f2,.inr ⟨g,by simp,by rw[f3];simp[fZ,encO]⟩⟩,f4,fun q b hq hb=>?_,h5⟩
     rw[f5 q hq (by rw[h4 q b hq hb];rfl)]
     exact h4 q b hq hb
    have hcont : ∀(H7:Heap),DInv H0 H7 rh rm (ops++[((⟨a_1,⟨a_2,a_3,a_4⟩,a_5,⟨⟨⟨a_6,a_7,a_8⟩,a_9⟩,a_10⟩,⟨⟨a_11,a_12,a_13⟩,a_14⟩,⟨a_15,a_16⟩,al⟩:Opn),x)]) ents→(if a_1=1 then GoL env Tryz.f172 (0+1) mD [(44,aI 0),(4,.ptr rh 0 0),(42,.isl 4 (mV (gy ⟨⟨⟨a_6,a_7,a_8⟩,a_9⟩,a_10⟩)) none),(12,x12),(13,aI l.length),(14,aI k),(43,aI (gy ⟨⟨⟨a_6,a_7,a_8⟩,a_9⟩,a_10⟩).length)] H7 Q
     else GoL env Tryz.f172 (0+1) kj [(4,.ptr rh 0 0),(14,aI ((k:Int)+1)),(12,x12),(13,aI l.length)] H7 Q):=by
     intro H7 hI7
     split
     ·rename_i hk1
      rw[if_pos hk1]at hQ
      exact Mc hx hall hl th tm dh dm hnl (fun H' hI'=>by rw[e3];exact ih (k+1) _ _ _ H' hs' (by omega) (by simp) (by simp;omega) (by simp;omega) hok' hI' hQ) _ 0 0 ents H7 rfl (by omega) rfl hI7 rfl
     ·rename_i hk1
      rw[if_neg hk1]at hQ
      exact ih (k+1) _ _ _ H7 hs' (by omega) (by simp) (by simp;omega) (by simp;omega) hok' hI7 hQ
    clear hall hQ ih hI hH hfits hC hok hok' hal2 hs hs' hg hg' h4 h5 hG4 hrd hd
    rcases h2 with ⟨rfl,rfl⟩ | ⟨g,rfl,h2⟩
    ·have hst':=hst (H4.gen 1 34) 1
     clear hst
     have heo:fZ []=[]:=rfl
     by_cases hk1:a_1=1
     ·subst hk1
      have hc:=fun H7 h=>hcont H7 h
      simp only[if_true]at hc
      clear hcont
      simp[af,ah,ad,ae,ab, *,hax.r]
      refine hc _ (hst' _ rfl ?_ ?_ ?_ ?_ fun q hq hlq=>?_)
      ·exact by simp(maxDischargeDepth:=12) [Heap.an,au,ak,Fr.nil,az,af,ah,ad,ae,ar,ao,ab, *]
      ·exact by simp(maxDischargeDepth:=12) [Heap.an,au,ak,Fr.nil,az,af,ah,ad,ae,ar,ao,ab, *]
      ·exact by simp(maxDischargeDepth:=12) [Heap.an,au,ak,Fr.nil,az,af,ah,ad,ae,ar,ao,ab, *]
      ·exact by simp(maxDischargeDepth:=12) [Heap.an,au,ak,Fr.nil,az,af,ah,ad,ae,ar,ao,ab, *]
      ·have nq:q≠rh:=by rintro rfl;omega
       have nqg : ∀g,q≠(⟨1,34,g,0⟩:Ref):=fun g e=>by have h:=congrArg Ref.d e;rw[hq]at h;exact absurd h (by simp)
       simp[af hF4 hlq,Heap.an,nq,nqg,nq.symm,fun g=>(nqg g).symm]
     ·have hc:=fun H7 h=>hcont H7 h
      simp only[hk1,if_false]at hc
      clear hcont
      simp[af,ah,ad,ae,ab, *,hax.r]
      refine hc _ (hst' _ rfl ?_ ?_ ?_ ?_ fun q hq hlq=>?_)
      ·exact by simp(maxDischargeDepth:=12) [Heap.an,au,ak,Fr.nil,az,af,ah,ad,ae,ar,ao,ab, *]
      ·exact by simp(maxDischargeDepth:=12) [Heap.an,au,ak,Fr.nil,az,af,ah,ad,ae,ar,ao,ab, *]
      ·exact by simp(maxDischargeDepth:=12) [Heap.an,au,ak,Fr.nil,az,af,ah,ad,ae,ar,ao,ab, *]
      ·exact by simp(maxDischargeDepth:=12) [Heap.an,au,ak,Fr.nil,az,af,ah,ad,ae,ar,ao,ab, *]
      ·have nq:q≠rh:=by rintro rfl;omega
       have nqg : ∀g,q≠(⟨1,34,g,0⟩:Ref):=fun g e=>by have h:=congrArg Ref.d e;rw[hq]at h;exact absurd h (by simp)
       simp[af hF4 hlq,Heap.an,nq,nqg,nq.symm,fun g=>(nqg g).symm]
    ·have hst':=hst (H4.gen 1 34) (ops.length+1)
     clear hst
     have l34:(H4.get ⟨1,34,g,0⟩).isSome=true:=by rw[h2];rfl
     have f4:oF 17 112 ops.length true none (some ⟨17,fZ ops,true,false⟩) (some [.agg [a8 a_1,a8 a_2,a32 a_3,a8 a_4,aI a_5,a8 a_6,a32 a_7,a8 a_8,aI a_9,aI a_10,a8 a_11,a32 a_12,a8 a_13,aI a_14,a8 a_15,a32 a_16,x]]):=by
      simp;omega
     by_cases hk1:a_1=1
     ·subst hk1
      have hc:=fun H7 h=>hcont H7 h
      simp only[if_true]at hc
      clear hcont
      simp[af,ah,ad,ae,ab, *,hax.r]
      refine hc _ (hst' _ rfl ?_ ?_ ?_ ?_ fun q hq hlq=>?_)
      ·exact by simp(maxDischargeDepth:=12) [Heap.an,au,ak,Fr.nil,az,af,ah,ad,ae,ar,ao,ab, *]
      ·exact by simp(maxDischargeDepth:=12) [Heap.an,au,ak,Fr.nil,az,af,ah,ad,ae,ar,ao,ab, *]
      ·exact by simp(maxDischargeDepth:=12) [Heap.an,au,ak,Fr.nil,az,af,ah,ad,ae,ar,ao,ab, *]
      ·exact by simp(maxDischargeDepth:=12) [Heap.an,au,ak,Fr.nil,az,af,ah,ad,ae,ar,ao,ab, *]
      ·have nq:q≠rh:=by rintro rfl;omega
       have nqg : ∀g,q≠(⟨1,34,g,0⟩:Ref):=fun g e=>by have h:=congrArg Ref.d e;rw[hq]at h;exact absurd h (by simp)
       simp[af hF4 hlq,Heap.an,nq,nqg,nq.symm,fun g=>(nqg g).symm]
     ·have hc:=fun H7 h=>hcont H7 h
      simp only[hk1,if_false]at hc
      clear hcont
      simp[af,ah,ad,ae,ab, *,hax.r]
      refine hc _ (hst' _ rfl ?_ ?_ ?_ ?_ fun q hq hlq=>?_)
      ·exact by simp(maxDischargeDepth:=12) [Heap.an,au,ak,Fr.nil,az,af,ah,ad,ae,ar,ao,ab, *]
      ·exact by simp(maxDischargeDepth:=12) [Heap.an,au,ak,Fr.nil,az,af,ah,ad,ae,ar,ao,ab, *]
      ·exact by simp(maxDischargeDepth:=12) [Heap.an,au,ak,Fr.nil,az,af,ah,ad,ae,ar,ao,ab, *]
      ·exact by simp(maxDischargeDepth:=12) [Heap.an,au,ak,Fr.nil,az,af,ah,ad,ae,ar,ao,ab, *]
      ·have nq:q≠rh:=by rintro rfl;omega
       have nqg : ∀g,q≠(⟨1,34,g,0⟩:Ref):=fun g e=>by have h:=congrArg Ref.d e;rw[hq]at h;exact absurd h (by simp)
       simp[af hF4 hlq,Heap.an,nq,nqg,nq.symm,fun g=>(nqg g).symm]
   ·have hd:yf ops ents (((⟨a_1,⟨a_2,a_3,a_4⟩,a_5,⟨⟨⟨a_6,a_7,a_8⟩,a_9⟩,a_10⟩,⟨⟨a_11,a_12,a_13⟩,a_14⟩,⟨a_15,a_16⟩,al⟩:Opn),x) :: s)=none:=by
     show(if _ then _ else _)=_
     rw[if_neg (fun h=>hd0 h.2)]
    rw[hd]at hQ
    have hfin:=hQ (.tup [.v (.pointer none),aB false]) H4 ⟨hI4.fr,hI4.old,rfl⟩
    simp[hd0]
    all_goals exact hfin
end
end Go.Proofs.YtmkmimgokagimaaGreat
namespace Go.Proofs.YtmkmimgokagimaaGreat
open Go.Ab
attribute [local simp] bj aL aF bg bf keep thr bx aT bc da cZ cJ bD aD bM List.take_of_length_le
@[simp] theorem UJ(r:Ref):(AV.mp r).cells=[.mp r]:=id rfl
@[simp] theorem XR(r:Ref):(AV.mp r).one=true:=id rfl
section
variable{l:List (Opn × AV)}{x0:AV}(hx:Sl 17 (fZ l) x0)(hall : ∀p∈l,okO p∧p.1.l.length<1000000)(hl:l.length<10000)
include hx hall hl
theorem Mn{H:Heap}(hF:Fr H) : ∃y H',limt env 0 (.fn 172) [x0] H=some (y,H') ∧∃rh rm,GK H rh rm l.length (yf [] [] l) y H':=by
 refine iw (Q:=fun y H' =>∃rh rm,GK H rh rm l.length (yf [] [] l) y H') (fn:=Tryz.f172) (c:=vC) (by kernel_rfl) (by kernel_rfl) (by kernel_rfl) (by kernel_rfl) (by kernel_rfl) ?_
 refine Ie _ _ _ _ fun g=>?_
 have hfin:=fun H2 hI=>Mo hx hall hl (rh:=⟨1,11,H.gen 1 11,0⟩) (rm:=⟨1,9,H.gen 1 9,0⟩) rfl rfl rfl rfl (H0:=H) (Q:=fun y H' =>∃rh rm,GK H rh rm l.length (yf [] [] l) y H') l 0 0 [] [] H2 rfl (by omega) rfl (by simp) (by simp) (by intro p hp;cases hp) hI (fun y H' h=>⟨_,_,h⟩)
 clear hall
 simp[af,ah,ad,ae,ab, *,D9,hx.r]
 refine hfin _ ⟨?_,⟨aNil,?_,.inl ⟨rfl,rfl⟩⟩,?_,fun q b hq hb=>?_,fun p hp=>nomatch hp⟩
 ·exact by simp(maxDischargeDepth:=12) [Heap.an,au,ak,Fr.nil,az,af,ah,ad,ae,ar,ao,ab, *]
 ·simp
 ·simp[cX]
 ·have lq:(H.get q).isSome=true:=by rw[hb];rfl
  simp[af hF lq,hb]
def nY(l:List (Opn × AV))(o:Opn):Int:=match yf [] [] l with
 | none=>8
 | some (ops,ents)=>if opB o then docE ops ents o else 8
theorem IS(a_1:UInt8)(a_2:UInt8)(a_3:UInt32)(a_4:UInt8)(a_5:Int)(a_6:UInt8)(a_7:UInt32)(a_8:UInt8)(a_9:Int)(a_10:Int)(a_11:UInt8)(a_12:UInt32)(a_13:UInt8)(a_14:Int)(a_15:UInt8)(a_16:UInt32){x:AV}{al:List Int}(hax:Sl 1 (rows al) x)(hal:al.length<1000000):limf env 137 [x0,.agg [a8 a_1,a8 a_2,a32 a_3,a8 a_4,aI a_5,a8 a_6,a32 a_7,a8 a_8,aI a_9,aI a_10,a8 a_11,a32 a_12,a8 a_13,aI a_14,a8 a_15,a32 a_16,x]]=some (aI (nY l (⟨a_1,⟨a_2,a_3,a_4⟩,a_5,⟨⟨⟨a_6,a_7,a_8⟩,a_9⟩,a_10⟩,⟨⟨a_11,a_12,a_13⟩,a_14⟩,⟨a_15,a_16⟩,al⟩:Opn))):=by
 refine aw (fn:=Tryz.f137) (c:=Ar) rfl (by kernel_rfl) (by kernel_rfl) (by kernel_rfl) (by kernel_rfl) ?_;refine Em _ _ _ _ fun g=>?_
 have hC:=iN a_1 a_2 a_3 a_4 a_5 a_6 a_7 a_8 a_9 a_10 a_11 a_12 a_13 a_14 a_15 a_16 hax (by omega)
 obtain⟨y,H2,h1,rh,rm,hF2,hold,hm⟩:=Mn hx hall hl (H:=[(⟨0,3,0,0⟩,some ⟨17,[.agg [a8 a_1,a8 a_2,a32 a_3,a8 a_4,aI a_5,a8 a_6,a32 a_7,a8 a_8,aI a_9,aI a_10,a8 a_11,a32 a_12,a8 a_13,aI a_14,a8 a_15,a32 a_16,x]],false,false⟩)]) (by simp[au,ak,Fr.nil])
 have hb3:=hold ⟨0,3,0,0⟩ _ rfl rfl
 have hw:aG env true (limf env) (limt env 0) [(⟨0,3,0,0⟩,some ⟨17,[.agg [a8 a_1,a8 a_2,a32 a_3,a8 a_4,aI a_5,a8 a_6,a32 a_7,a8 a_8,aI a_9,aI a_10,a8 a_11,a32 a_12,a8 a_13,aI a_14,a8 a_15,a32 a_16,x]],false,false⟩)] ⟨0,10,0,0⟩ (some (.fn (.func 172) [] [])) [x0]=some (y,H2):=by
  rw[Aj (by kernel_rfl)]
  exact h1
 unfold nY
 cases hd:yf [] [] l with
 | none =>
  rw[hd]at hm
  dsimp only at hm
  subst hm
  clear hold hall
  simp[af,ah,ad,ae,ab, *,qF,hx.r,hax.r,hw]
 | some p =>
  obtain⟨ops,ents⟩:=p
  rw[hd]at hm
  dsimp only at hm
  obtain⟨rfl,hI,ho,he,hok⟩:=hm
  clear hold
  cases hb:opB (⟨a_1,⟨a_2,a_3,a_4⟩,a_5,⟨⟨⟨a_6,a_7,a_8⟩,a_9⟩,a_10⟩,⟨⟨a_11,a_12,a_13⟩,a_14⟩,⟨a_15,a_16⟩,al⟩:Opn) with
  | false =>
   clear hall hI
   simp[af,ah,ad,ae,ab, *,qF,hx.r,hax.r,hw]
  | true =>
   have hf:=J7 0 hF2 hI.hist hI.ok (by omega) hok (by omega) a_1 a_2 a_3 a_4 a_5 a_6 a_7 a_8 a_9 a_10 a_11 a_12 a_13 a_14 a_15 a_16 hax hal hb
   clear hall hI
   simp[af,ah,ad,ae,ab, *,qF,hx.r,hax.r,hw]
   refine jm (by kernel_rfl) hf fun H4 hG=>?_
   simp
end
end Go.Proofs.YtmkmimgokagimaaGreat
