/-
  Several grants applied: what that answers, as the caller's own. No statement of a seat is proved here.
-/
import Derived.Test.YtgooemdlilfkmaaGtFns
import Derived.Test.YtgooemdlilfkmaaGrRep
set_option linter.unusedVariables false
set_option linter.unusedSimpArgs false
set_option linter.unusedSectionVars false
set_option linter.unnecessarySimpa false
set_option maxRecDepth 100000
namespace Go.Proofs.Ytgooemdlilfkmaa
open Go.Ab
attribute [local simp] cA bA gZ own3 cV fB keep thr iv gv gu lI lH eo List.take_of_length_le kT kW jT iS
abbrev dH(l:List Gr):List AV:=l.map fun g => .agg g.enc
abbrev errs(l:List Int):List AV:=l.map aI
def runF(qs:List Quota):List Gr→List Clear→Int→List Int × List Clear × Int
 | [],us,gr=>([],us,gr)
 | ⟨user,v,c,ok⟩ :: l,us,gr =>
  if ch us qs gr user v c ok=0 then (0 :: (runF qs l (us.set user.toNat ⟨v,c,ok⟩) (IntKind.i64.wrap (gr - 1))).1,(runF qs l (us.set user.toNat ⟨v,c,ok⟩) (IntKind.i64.wrap (gr - 1))).2)
  else (ch us qs gr user v c ok :: (runF qs l us gr).1,(runF qs l us gr).2)
def OwnR(z:Nat)(es:List AV)(H:Heap)(x:AV)(r:Ref):Prop:=(r.t=24∨r.t=34)∧((x=aNil∧es=[])∨(es≠[]∧x = .osl r 0 es.length none∧H.get r=some ⟨z,es,true,false⟩))
structure RInvO (H:Heap) (us:List Clear) (qs:List Quota) (gr:Int) (acc:List Int) (x8:AV):Prop where
 fr:Fr H
 box : ∃yu yq ru rq,H.get ⟨0,2,0,0⟩=some ⟨3,[.agg [yu,yq,aI gr]],false,false⟩∧ru≠rq∧OwnR 3 (av us) H yu ru∧OwnR 5 (ay qs) H yq rq
 out : ∃z1 z2 z3,H.get ⟨0,4,0,0⟩=some ⟨3,[.agg [z1,z2,z3]],false,false⟩
 row:nN [43] 1 (errs acc) H x8
theorem tA{l:List Gr}{x25:AV}(hx:Sl 4 (dH l) x25)(hl:l.length<100000){qs:List Quota}(hql:qs.length * 32≤140737488355328){Q:AV→Heap→Prop} :
 ∀(s:List Gr)(k:Nat)(i:Int)(us:List Clear)(gr:Int)(acc:List Int)(x8:AV)(H:Heap),l.drop k=s→k≤l.length→i=k→acc.length=k→us.length * 12≤140737488355328→RInvO H us qs gr acc x8 →
 (∀x8' H' yu yq ru rq,ru≠rq→OwnR 3 (av (runF qs s us gr).2.1) H' yu ru→OwnR 5 (ay qs) H' yq rq→nN [43] 1 (errs (acc++(runF qs s us gr).1)) H' x8'→Q (.tup [.agg [yu,yq,aI (runF qs s us gr).2.2],x8',aI 0]) H') →
 GoL env Try.f36 0 eM [(27,aI i),(8,x8),(2,.ptr ⟨0,2,0,0⟩ 0 0),(25,x25),(4,.ptr ⟨0,4,0,0⟩ 0 0),(26,aI l.length)] H Q:=by
 intro s
 induction s with
 | nil =>
  rintro k i us gr acc x8 H hs hk rfl ha hul hI hQ
  obtain rfl:=drop_nil hs hk
  obtain⟨hF,⟨yu,yq,ru,rq,hb,hne,⟨tu,hu⟩,⟨tq,hq⟩⟩,⟨z1,z2,z3,hz⟩,hO⟩:=hI
  refine kB _ _ _ _ _ _ _ _ fun g=>?_
  have l4:(H.get ⟨0,4,0,0⟩).isSome=true:=by rw[hz];rfl
  have n4u:(⟨0,4,0,0⟩:Ref)≠ru:=by rintro rfl;rcases tu with h | h<;>cases h
  have n4q:(⟨0,4,0,0⟩:Ref)≠rq:=by rintro rfl;rcases tq with h | h<;>cases h
  have hfin : ∀(H':Heap),(∀r,r≠⟨0,4,0,0⟩→H'.get r=H.get r)→Q (.tup [.agg [yu,yq,aI gr],x8,aI 0]) H':=by
   intro H' hsame
   refine hQ x8 H' yu yq ru rq hne ⟨tu,?_⟩ ⟨tq,?_⟩ ?_
   ·rcases hu with h | ⟨n,h1,h2⟩
    ·exact .inl h
    ·exact .inr ⟨n,h1,by rw[hsame _ n4u.symm];exact h2⟩
   ·rcases hq with h | ⟨n,h1,h2⟩
    ·exact .inl h
    ·exact .inr ⟨n,h1,by rw[hsame _ n4q.symm];exact h2⟩
   ·rcases hO with h | ⟨t,gg,ht,h1,h2⟩
    ·exact .inl (by simpa [runF] using h)
    ·rw[List.mem_singleton]at ht
     subst ht
     exact .inr ⟨43,gg,by simp,by simpa [runF] using h1,by rw[hsame _ (fun e=>by cases e)];simpa [runF] using h2⟩
  have cu:yu.cells=[yu]∧yu.one=true:=by rcases hu with ⟨rfl,_⟩ | ⟨_,rfl,_⟩<;>exact⟨rfl,rfl⟩
  have cq:yq.cells=[yq]∧yq.one=true:=by rcases hq with ⟨rfl,_⟩ | ⟨_,rfl,_⟩<;>exact⟨rfl,rfl⟩
  clear hQ hO hu hq
  simp[ae,af,ab,ad,aa, *,bl,cu,cq]
  exact hfin _ fun r hr=>by rw[Heap.aj,if_neg hr]
 | cons p s ih =>
  rintro k i us gr acc x8 H hs hk rfl ha hul hI hQ
  obtain⟨hlt,hg,hs',hg'⟩:=drop_cons hs
  obtain⟨user,lv,cats,ok⟩:=p
  obtain⟨hF,⟨yu,yq,ru,rq,hb,hne,⟨tu,hu⟩,⟨tq,hq⟩⟩,⟨z1,z2,z3,hz⟩,hO⟩:=hI
  have e3:=IntWalk.i64_in ((k:Int)+1) (by omega)
  have hrd:eK (dH l) k 0 4 true=some (.agg [aI user,a8 lv,a32 cats,aB ok]):=by simp[Gr.enc,hg']
  refine kB _ _ _ _ _ _ _ _ fun g=>?_
  have l2:(H.get ⟨0,2,0,0⟩).isSome=true:=by rw[hb];rfl
  have l4:(H.get ⟨0,4,0,0⟩).isSome=true:=by rw[hz];rfl
  have hlt':(k:Int)<l.length:=by omega
  have hun:runF qs (⟨user,lv,cats,ok⟩ :: s) us gr=if ch us qs gr user lv cats ok=0 then (0 :: (runF qs s (us.set user.toNat ⟨lv,cats,ok⟩) (IntKind.i64.wrap (gr - 1))).1,(runF qs s (us.set user.toNat ⟨lv,cats,ok⟩) (IntKind.i64.wrap (gr - 1))).2) else (ch us qs gr user lv cats ok :: (runF qs s us gr).1,(runF qs s us gr).2):=rfl
  rw[hun]at hQ
  clear hun
  by_cases he:ch us qs gr user lv cats ok=0
  ·rw[if_pos he]at hQ
   have hne':us≠[]:=by
    rintro rfl
    unfold ch at he
    split at he
    ·rename_i hm
     rw[Bool.and_eq_true]at hm
     have hg2:=hm.2
     simp only[mayG,Bool.and_eq_true,decide_eq_true_eq]at hg2
     rw[if_pos (by simpa using hg2.1.1)]at he
     cases he
    ·cases he
   have hA:=fun {xu xq:AV} (h1:Sl 3 (av us) xu) (h2:Sl 5 (ay qs) xq)=>pN (gr:=gr) h1 h2 hql hul user lv cats ok he
   unfold polO at hA
   have hul':(us.set user.toNat ⟨lv,cats,ok⟩).length * 12≤140737488355328:=by rw[List.length_set];exact hul
   have hnu:us.set user.toNat ⟨lv,cats,ok⟩≠[]:=by intro e;have:=congrArg List.length e;rw[List.length_set]at this;exact hne' (List.length_eq_zero_iff.1 this)
   generalize us.set user.toNat ⟨lv,cats,ok⟩=us' at *
   generalize IntKind.i64.wrap (gr - 1)=gr' at *
   have hih:=fun x8' H''=>ih (k+1) ((k:Int)+1) us' gr' (acc++[0]) x8' H'' hs' (by omega) (by simp) (by simp;omega) hul'
   have hQ' : ∀x8' H' yu yq ru rq,ru≠rq→OwnR 3 (av (runF qs s us' gr').2.1) H' yu ru→OwnR 5 (ay qs) H' yq rq→nN [43] 1 (errs ((acc++[0])++(runF qs s us' gr').1)) H' x8'→Q (.tup [.agg [yu,yq,aI (runF qs s us' gr').2.2],x8',aI 0]) H':=fun x8' H' yu yq ru rq h0 h1 h2 h3=>hQ x8' H' yu yq ru rq h0 h1 h2 (by simpa using h3)
   have hst : ∀(g h m:Nat)(yq':AV)(H1:Heap),m=acc.length+1→Fr H1→H1.get ⟨0,2,0,0⟩=some ⟨3,[.agg [.osl ⟨0,34,h,0⟩ 0 (av us').length none,yq',aI gr']],false,false⟩→H1.get ⟨0,4,0,0⟩=some ⟨3,[.agg [z1,z2,z3]],false,false⟩→H1.get ⟨0,43,g,0⟩=some ⟨1,errs acc++[aI 0],true,false⟩ →
    H1.get ⟨0,34,h,0⟩=some ⟨3,av us',true,false⟩→((yq'=aNil∧ay qs=[])∨(ay qs≠[]∧yq' = .osl ⟨0,34,h,1⟩ 0 (ay qs).length none∧H1.get ⟨0,34,h,1⟩=some ⟨5,ay qs,true,false⟩)) →
    RInvO H1 us' qs gr' (acc++[0]) (.osl ⟨0,43,g,0⟩ 0 m none):=by
    intro g h m yq' H1 hm f1 f2 f3 f4 f5 f6
    subst hm
    exact⟨f1,⟨_,yq',⟨0,34,h,0⟩,⟨0,34,h,1⟩,f2,(by intro e;cases e),⟨.inr rfl,.inr ⟨(by simpa using hnu),rfl,f5⟩⟩,⟨.inr rfl,f6⟩⟩,⟨z1,z2,z3,f3⟩,.inr ⟨43,g,by simp,by simp,by rw[f4];simp⟩⟩
   clear ih hQ he
   have hal:acc.length<100000:=by omega
   clear ha hul hs hs' hg hg' hul'
   have fl:=aw us'
   have fq:=bg qs
   rcases hu with ⟨rfl,eu⟩ | ⟨nu,rfl,hru⟩
   ·exact absurd (by simpa using eu) hne'
   ·rcases hq with ⟨rfl,eq⟩ | ⟨nq,rfl,hrq⟩
    ·rcases hO with ⟨rfl,hz0⟩ | ⟨t,gg,ht,rfl,hrr⟩
     ·have hA1:=hA (.inr ⟨none,rfl,Nat.le_refl _⟩) (.inl ⟨rfl,eq⟩)
      have lu:(H.get ru).isSome=true:=by rw[hru];rfl
      have hz':acc=[]:=by simpa using hz0
      subst hz'
      have hst':=hst (H.gen 0 43) (H.gen 0 34) 1
      clear hst hA hz0
      simp[ae,af,ab,ad,aa, *,bl,hx.r,hx.idx,Heap.aj]
      exact hih _ _ (hst' _ _ rfl (by simp(maxDischargeDepth:=12) [Heap.aj,an,ai,Fr.nil,au,ae,af,ab,ad,al,ah,aa, *]) (by simp(maxDischargeDepth:=12) [Heap.aj,an,ai,Fr.nil,au,ae,af,ab,ad,al,ah,aa, *]) (by simp(maxDischargeDepth:=12) [Heap.aj,an,ai,Fr.nil,au,ae,af,ab,ad,al,ah,aa, *]) (by simp(maxDischargeDepth:=12) [Heap.aj,an,ai,Fr.nil,au,ae,af,ab,ad,al,ah,aa, *]) (by simp(maxDischargeDepth:=12) [Heap.aj,an,ai,Fr.nil,au,ae,af,ab,ad,al,ah,aa, *]) (.inl ⟨rfl,eq⟩)) hQ'
     ·have hA1:=hA (.inr ⟨none,rfl,Nat.le_refl _⟩) (.inl ⟨rfl,eq⟩)
      have lu:(H.get ru).isSome=true:=by rw[hru];rfl
      rw[List.mem_singleton]at ht
      subst ht
      have hst':=hst (H.gen 0 43) (H.gen 0 34) (acc.length+1)
      have l6:(H.get ⟨0,43,gg,0⟩).isSome=true:=by rw[hrr];rfl
      have hacc:(errs acc).length=acc.length:=by simp
      have f4:gA 1 8 acc.length true none (some ⟨1,errs acc,true,false⟩) (some [aI 0]):=by
       simp;omega
      clear hst hA
      simp[ae,af,ab,ad,aa, *,bl,hx.r,hx.idx,Heap.aj]
      exact hih _ _ (hst' _ _ rfl (by simp(maxDischargeDepth:=12) [Heap.aj,an,ai,Fr.nil,au,ae,af,ab,ad,al,ah,aa, *]) (by simp(maxDischargeDepth:=12) [Heap.aj,an,ai,Fr.nil,au,ae,af,ab,ad,al,ah,aa, *]) (by simp(maxDischargeDepth:=12) [Heap.aj,an,ai,Fr.nil,au,ae,af,ab,ad,al,ah,aa, *]) (by simp(maxDischargeDepth:=12) [Heap.aj,an,ai,Fr.nil,au,ae,af,ab,ad,al,ah,aa, *]) (by simp(maxDischargeDepth:=12) [Heap.aj,an,ai,Fr.nil,au,ae,af,ab,ad,al,ah,aa, *]) (.inl ⟨rfl,eq⟩)) hQ'
    ·by_cases hq0:qs=[]
     ·exact absurd (by rw[hq0];rfl) nq
     ·rcases hO with ⟨rfl,hz0⟩ | ⟨t,gg,ht,rfl,hrr⟩
      ·have hA1:=hA (.inr ⟨none,rfl,Nat.le_refl _⟩) (.inr ⟨none,rfl,Nat.le_refl _⟩)
       have lu:(H.get ru).isSome=true:=by rw[hru];rfl
       have lq:(H.get rq).isSome=true:=by rw[hrq];rfl
       rw[je 5 none (by simpa using hq0)]at hA1
       have hz':acc=[]:=by simpa using hz0
       subst hz'
       have hst':=hst (H.gen 0 43) (H.gen 0 34) 1
       clear hst hA hz0
       simp[ae,af,ab,ad,aa, *,bl,hx.r,hx.idx,Heap.aj]
       exact hih _ _ (hst' (.osl ⟨0,34,H.gen 0 34,1⟩ 0 (ay qs).length none) _ rfl (by simp(maxDischargeDepth:=12) [Heap.aj,an,ai,Fr.nil,au,ae,af,ab,ad,al,ah,aa, *]) (by simp(maxDischargeDepth:=12) [Heap.aj,an,ai,Fr.nil,au,ae,af,ab,ad,al,ah,aa, *]) (by simp(maxDischargeDepth:=12) [Heap.aj,an,ai,Fr.nil,au,ae,af,ab,ad,al,ah,aa, *]) (by simp(maxDischargeDepth:=12) [Heap.aj,an,ai,Fr.nil,au,ae,af,ab,ad,al,ah,aa, *]) (by simp(maxDischargeDepth:=12) [Heap.aj,an,ai,Fr.nil,au,ae,af,ab,ad,al,ah,aa, *]) (.inr ⟨nq,rfl,by simp(maxDischargeDepth:=12) [Heap.aj,an,ai,Fr.nil,au,ae,af,ab,ad,al,ah,aa, *]⟩)) hQ'
      ·have hA1:=hA (.inr ⟨none,rfl,Nat.le_refl _⟩) (.inr ⟨none,rfl,Nat.le_refl _⟩)
       have lu:(H.get ru).isSome=true:=by rw[hru];rfl
       have lq:(H.get rq).isSome=true:=by rw[hrq];rfl
       rw[je 5 none (by simpa using hq0)]at hA1
       rw[List.mem_singleton]at ht
       subst ht
       have hst':=hst (H.gen 0 43) (H.gen 0 34) (acc.length+1)
       have l6:(H.get ⟨0,43,gg,0⟩).isSome=true:=by rw[hrr];rfl
       have hacc:(errs acc).length=acc.length:=by simp
       have f4:gA 1 8 acc.length true none (some ⟨1,errs acc,true,false⟩) (some [aI 0]):=by
        simp;omega
       clear hst hA
       simp[ae,af,ab,ad,aa, *,bl,hx.r,hx.idx,Heap.aj]
       exact hih _ _ (hst' (.osl ⟨0,34,H.gen 0 34,1⟩ 0 (ay qs).length none) _ rfl (by simp(maxDischargeDepth:=12) [Heap.aj,an,ai,Fr.nil,au,ae,af,ab,ad,al,ah,aa, *]) (by simp(maxDischargeDepth:=12) [Heap.aj,an,ai,Fr.nil,au,ae,af,ab,ad,al,ah,aa, *]) (by simp(maxDischargeDepth:=12) [Heap.aj,an,ai,Fr.nil,au,ae,af,ab,ad,al,ah,aa, *]) (by simp(maxDischargeDepth:=12) [Heap.aj,an,ai,Fr.nil,au,ae,af,ab,ad,al,ah,aa, *]) (by simp(maxDischargeDepth:=12) [Heap.aj,an,ai,Fr.nil,au,ae,af,ab,ad,al,ah,aa, *]) (.inr ⟨nq,rfl,by simp(maxDischargeDepth:=12) [Heap.aj,an,ai,Fr.nil,au,ae,af,ab,ad,al,ah,aa, *]⟩)) hQ'
  ·rw[if_neg he]at hQ
   have hih:=fun x8' H''=>ih (k+1) ((k:Int)+1) us gr (acc++[ch us qs gr user lv cats ok]) x8' H'' hs' (by omega) (by simp) (by simp;omega) hul
   have hQ' : ∀x8' H' yu yq ru rq,ru≠rq→OwnR 3 (av (runF qs s us gr).2.1) H' yu ru→OwnR 5 (ay qs) H' yq rq→nN [43] 1 (errs ((acc++[ch us qs gr user lv cats ok])++(runF qs s us gr).1)) H' x8'→Q (.tup [.agg [yu,yq,aI (runF qs s us gr).2.2],x8',aI 0]) H':=fun x8' H' yu yq ru rq h0 h1 h2 h3=>hQ x8' H' yu yq ru rq h0 h1 h2 (by simpa using h3)
   have hst : ∀(g m:Nat)(H1:Heap),m=acc.length+1→Fr H1→H1.get ⟨0,2,0,0⟩=some ⟨3,[.agg [yu,yq,aI gr]],false,false⟩→H1.get ⟨0,4,0,0⟩=some ⟨3,[.agg [z1,z2,z3]],false,false⟩→H1.get ⟨0,43,g,0⟩=some ⟨1,errs acc++[aI (ch us qs gr user lv cats ok)],true,false⟩ →
    (∀r,r.t=24∨r.t=34→(H.get r).isSome=true→H1.get r=H.get r)→RInvO H1 us qs gr (acc++[ch us qs gr user lv cats ok]) (.osl ⟨0,43,g,0⟩ 0 m none):=by
    intro g m H1 hm f1 f2 f3 f4 f5
    subst hm
    refine⟨f1,⟨yu,yq,ru,rq,f2,hne,⟨tu,?_⟩,⟨tq,?_⟩⟩,⟨z1,z2,z3,f3⟩,.inr ⟨43,g,by simp,by simp,by rw[f4];simp⟩⟩
    ·rcases hu with h | ⟨n,h1,h2⟩
     ·exact .inl h
     ·exact .inr ⟨n,h1,by rw[f5 ru tu (by rw[h2];rfl)];exact h2⟩
    ·rcases hq with h | ⟨n,h1,h2⟩
     ·exact .inl h
     ·exact .inr ⟨n,h1,by rw[f5 rq tq (by rw[h2];rfl)];exact h2⟩
   have hA:=fun {xu xq:AV} (h1:Sl 3 (av us) xu) (h2:Sl 5 (ay qs) xq)=>pO (gr:=gr) h1 h2 hql hul user lv cats ok he
   have he' : ¬ch us qs gr user lv cats ok=0:=he
   clear ih hQ he
   generalize ch us qs gr user lv cats ok=er at *
   have hal:acc.length<100000:=by omega
   clear ha hul hs hs' hg hg'
   rcases hu with ⟨rfl,eu⟩ | ⟨nu,rfl,hru⟩<;>rcases hq with ⟨rfl,eq⟩ | ⟨nq,rfl,hrq⟩<;>rcases hO with ⟨rfl,hz0⟩ | ⟨t,gg,ht,rfl,hrr⟩
   ·have hA1:=hA (.inl ⟨rfl,eu⟩) (.inl ⟨rfl,eq⟩)
    have hz':acc=[]:=by simpa using hz0
    subst hz'
    have hst':=hst (H.gen 0 43) 1
    clear hst hA hz0
    simp[ae,af,ab,ad,aa, *,bl,hx.r,hx.idx,Heap.aj]
    exact hih _ _ (hst' _ rfl (by simp(maxDischargeDepth:=12) [Heap.aj,an,ai,Fr.nil,au,ae,af,ab,ad,al,ah,aa, *]) (by simp(maxDischargeDepth:=12) [Heap.aj,an,ai,Fr.nil,au,ae,af,ab,ad,al,ah,aa, *]) (by simp(maxDischargeDepth:=12) [Heap.aj,an,ai,Fr.nil,au,ae,af,ab,ad,al,ah,aa, *]) (by simp(maxDischargeDepth:=12) [Heap.aj,an,ai,Fr.nil,au,ae,af,ab,ad,al,ah,aa, *]) (fun r e hl=>by simp[ae hF hl,fun g=>(show(⟨0,43,g,0⟩:Ref)≠r by rintro rfl;rcases e with e | e<;>cases e),fun g=>(show r≠(⟨0,43,g,0⟩:Ref) by rintro rfl;rcases e with e | e<;>cases e)])) hQ'
   ·have hA1:=hA (.inl ⟨rfl,eu⟩) (.inl ⟨rfl,eq⟩)
    rw[List.mem_singleton]at ht
    subst ht
    have hst':=hst (H.gen 0 43) (acc.length+1)
    have l6:(H.get ⟨0,43,gg,0⟩).isSome=true:=by rw[hrr];rfl
    have hacc:(errs acc).length=acc.length:=by simp
    have f4:gA 1 8 acc.length true none (some ⟨1,errs acc,true,false⟩) (some [aI er]):=by
     simp;omega
    clear hst hA
    simp[ae,af,ab,ad,aa, *,bl,hx.r,hx.idx,Heap.aj]
    exact hih _ _ (hst' _ rfl (by simp(maxDischargeDepth:=12) [Heap.aj,an,ai,Fr.nil,au,ae,af,ab,ad,al,ah,aa, *]) (by simp(maxDischargeDepth:=12) [Heap.aj,an,ai,Fr.nil,au,ae,af,ab,ad,al,ah,aa, *]) (by simp(maxDischargeDepth:=12) [Heap.aj,an,ai,Fr.nil,au,ae,af,ab,ad,al,ah,aa, *]) (by simp(maxDischargeDepth:=12) [Heap.aj,an,ai,Fr.nil,au,ae,af,ab,ad,al,ah,aa, *]) (fun r e hl=>by simp[ae hF hl,fun g=>(show(⟨0,43,g,0⟩:Ref)≠r by rintro rfl;rcases e with e | e<;>cases e),fun g=>(show r≠(⟨0,43,g,0⟩:Ref) by rintro rfl;rcases e with e | e<;>cases e)])) hQ'
   ·have hA1:=hA (.inl ⟨rfl,eu⟩) (.inr ⟨none,rfl,Nat.le_refl _⟩)
    have lq:(H.get rq).isSome=true:=by rw[hrq];rfl
    have hz':acc=[]:=by simpa using hz0
    subst hz'
    have hst':=hst (H.gen 0 43) 1
    clear hst hA hz0
    simp[ae,af,ab,ad,aa, *,bl,hx.r,hx.idx,Heap.aj]
    exact hih _ _ (hst' _ rfl (by simp(maxDischargeDepth:=12) [Heap.aj,an,ai,Fr.nil,au,ae,af,ab,ad,al,ah,aa, *]) (by simp(maxDischargeDepth:=12) [Heap.aj,an,ai,Fr.nil,au,ae,af,ab,ad,al,ah,aa, *]) (by simp(maxDischargeDepth:=12) [Heap.aj,an,ai,Fr.nil,au,ae,af,ab,ad,al,ah,aa, *]) (by simp(maxDischargeDepth:=12) [Heap.aj,an,ai,Fr.nil,au,ae,af,ab,ad,al,ah,aa, *]) (fun r e hl=>by simp[ae hF hl,fun g=>(show(⟨0,43,g,0⟩:Ref)≠r by rintro rfl;rcases e with e | e<;>cases e),fun g=>(show r≠(⟨0,43,g,0⟩:Ref) by rintro rfl;rcases e with e | e<;>cases e)])) hQ'
   ·have hA1:=hA (.inl ⟨rfl,eu⟩) (.inr ⟨none,rfl,Nat.le_refl _⟩)
    have lq:(H.get rq).isSome=true:=by rw[hrq];rfl
    rw[List.mem_singleton]at ht
    subst ht
    have hst':=hst (H.gen 0 43) (acc.length+1)
    have l6:(H.get ⟨0,43,gg,0⟩).isSome=true:=by rw[hrr];rfl
    have hacc:(errs acc).length=acc.length:=by simp
    have f4:gA 1 8 acc.length true none (some ⟨1,errs acc,true,false⟩) (some [aI er]):=by
     simp;omega
    clear hst hA
    simp[ae,af,ab,ad,aa, *,bl,hx.r,hx.idx,Heap.aj]
    exact hih _ _ (hst' _ rfl (by simp(maxDischargeDepth:=12) [Heap.aj,an,ai,Fr.nil,au,ae,af,ab,ad,al,ah,aa, *]) (by simp(maxDischargeDepth:=12) [Heap.aj,an,ai,Fr.nil,au,ae,af,ab,ad,al,ah,aa, *]) (by simp(maxDischargeDepth:=12) [Heap.aj,an,ai,Fr.nil,au,ae,af,ab,ad,al,ah,aa, *]) (by simp(maxDischargeDepth:=12) [Heap.aj,an,ai,Fr.nil,au,ae,af,ab,ad,al,ah,aa, *]) (fun r e hl=>by simp[ae hF hl,fun g=>(show(⟨0,43,g,0⟩:Ref)≠r by rintro rfl;rcases e with e | e<;>cases e),fun g=>(show r≠(⟨0,43,g,0⟩:Ref) by rintro rfl;rcases e with e | e<;>cases e)])) hQ'
   ·have hA1:=hA (.inr ⟨none,rfl,Nat.le_refl _⟩) (.inl ⟨rfl,eq⟩)
    have lu:(H.get ru).isSome=true:=by rw[hru];rfl
    have hz':acc=[]:=by simpa using hz0
    subst hz'
    have hst':=hst (H.gen 0 43) 1
    clear hst hA hz0
    simp[ae,af,ab,ad,aa, *,bl,hx.r,hx.idx,Heap.aj]
    exact hih _ _ (hst' _ rfl (by simp(maxDischargeDepth:=12) [Heap.aj,an,ai,Fr.nil,au,ae,af,ab,ad,al,ah,aa, *]) (by simp(maxDischargeDepth:=12) [Heap.aj,an,ai,Fr.nil,au,ae,af,ab,ad,al,ah,aa, *]) (by simp(maxDischargeDepth:=12) [Heap.aj,an,ai,Fr.nil,au,ae,af,ab,ad,al,ah,aa, *]) (by simp(maxDischargeDepth:=12) [Heap.aj,an,ai,Fr.nil,au,ae,af,ab,ad,al,ah,aa, *]) (fun r e hl=>by simp[ae hF hl,fun g=>(show(⟨0,43,g,0⟩:Ref)≠r by rintro rfl;rcases e with e | e<;>cases e),fun g=>(show r≠(⟨0,43,g,0⟩:Ref) by rintro rfl;rcases e with e | e<;>cases e)])) hQ'
   ·have hA1:=hA (.inr ⟨none,rfl,Nat.le_refl _⟩) (.inl ⟨rfl,eq⟩)
    have lu:(H.get ru).isSome=true:=by rw[hru];rfl
    rw[List.mem_singleton]at ht
    subst ht
    have hst':=hst (H.gen 0 43) (acc.length+1)
    have l6:(H.get ⟨0,43,gg,0⟩).isSome=true:=by rw[hrr];rfl
    have hacc:(errs acc).length=acc.length:=by simp
    have f4:gA 1 8 acc.length true none (some ⟨1,errs acc,true,false⟩) (some [aI er]):=by
     simp;omega
    clear hst hA
    simp[ae,af,ab,ad,aa, *,bl,hx.r,hx.idx,Heap.aj]
    exact hih _ _ (hst' _ rfl (by simp(maxDischargeDepth:=12) [Heap.aj,an,ai,Fr.nil,au,ae,af,ab,ad,al,ah,aa, *]) (by simp(maxDischargeDepth:=12) [Heap.aj,an,ai,Fr.nil,au,ae,af,ab,ad,al,ah,aa, *]) (by simp(maxDischargeDepth:=12) [Heap.aj,an,ai,Fr.nil,au,ae,af,ab,ad,al,ah,aa, *]) (by simp(maxDischargeDepth:=12) [Heap.aj,an,ai,Fr.nil,au,ae,af,ab,ad,al,ah,aa, *]) (fun r e hl=>by simp[ae hF hl,fun g=>(show(⟨0,43,g,0⟩:Ref)≠r by rintro rfl;rcases e with e | e<;>cases e),fun g=>(show r≠(⟨0,43,g,0⟩:Ref) by rintro rfl;rcases e with e | e<;>cases e)])) hQ'
   ·have hA1:=hA (.inr ⟨none,rfl,Nat.le_refl _⟩) (.inr ⟨none,rfl,Nat.le_refl _⟩)
    have lu:(H.get ru).isSome=true:=by rw[hru];rfl
    have lq:(H.get rq).isSome=true:=by rw[hrq];rfl
    have hz':acc=[]:=by simpa using hz0
    subst hz'
    have hst':=hst (H.gen 0 43) 1
    clear hst hA hz0
    simp[ae,af,ab,ad,aa, *,bl,hx.r,hx.idx,Heap.aj]
    exact hih _ _ (hst' _ rfl (by simp(maxDischargeDepth:=12) [Heap.aj,an,ai,Fr.nil,au,ae,af,ab,ad,al,ah,aa, *]) (by simp(maxDischargeDepth:=12) [Heap.aj,an,ai,Fr.nil,au,ae,af,ab,ad,al,ah,aa, *]) (by simp(maxDischargeDepth:=12) [Heap.aj,an,ai,Fr.nil,au,ae,af,ab,ad,al,ah,aa, *]) (by simp(maxDischargeDepth:=12) [Heap.aj,an,ai,Fr.nil,au,ae,af,ab,ad,al,ah,aa, *]) (fun r e hl=>by simp[ae hF hl,fun g=>(show(⟨0,43,g,0⟩:Ref)≠r by rintro rfl;rcases e with e | e<;>cases e),fun g=>(show r≠(⟨0,43,g,0⟩:Ref) by rintro rfl;rcases e with e | e<;>cases e)])) hQ'
   ·have hA1:=hA (.inr ⟨none,rfl,Nat.le_refl _⟩) (.inr ⟨none,rfl,Nat.le_refl _⟩)
    have lu:(H.get ru).isSome=true:=by rw[hru];rfl
    have lq:(H.get rq).isSome=true:=by rw[hrq];rfl
    rw[List.mem_singleton]at ht
    subst ht
    have hst':=hst (H.gen 0 43) (acc.length+1)
    have l6:(H.get ⟨0,43,gg,0⟩).isSome=true:=by rw[hrr];rfl
    have hacc:(errs acc).length=acc.length:=by simp
    have f4:gA 1 8 acc.length true none (some ⟨1,errs acc,true,false⟩) (some [aI er]):=by
     simp;omega
    clear hst hA
    simp[ae,af,ab,ad,aa, *,bl,hx.r,hx.idx,Heap.aj]
    exact hih _ _ (hst' _ rfl (by simp(maxDischargeDepth:=12) [Heap.aj,an,ai,Fr.nil,au,ae,af,ab,ad,al,ah,aa, *]) (by simp(maxDischargeDepth:=12) [Heap.aj,an,ai,Fr.nil,au,ae,af,ab,ad,al,ah,aa, *]) (by simp(maxDischargeDepth:=12) [Heap.aj,an,ai,Fr.nil,au,ae,af,ab,ad,al,ah,aa, *]) (by simp(maxDischargeDepth:=12) [Heap.aj,an,ai,Fr.nil,au,ae,af,ab,ad,al,ah,aa, *]) (fun r e hl=>by simp[ae hF hl,fun g=>(show(⟨0,43,g,0⟩:Ref)≠r by rintro rfl;rcases e with e | e<;>cases e),fun g=>(show r≠(⟨0,43,g,0⟩:Ref) by rintro rfl;rcases e with e | e<;>cases e)])) hQ'
end Go.Proofs.Ytgooemdlilfkmaa
