/-
  The document's answer for grants: applied, run. No statement of a seat is proved here.
-/
import Derived.Test.YtgooemdlilfkmaaGtMath
import Derived.Test.YtgooemdlilfkmaaGtRun2
set_option linter.unusedVariables false
set_option linter.unusedSimpArgs false
set_option linter.unusedSectionVars false
set_option linter.unnecessarySimpa false
set_option maxRecDepth 100000
namespace Go.Proofs.Ytgooemdlilfkmaa
open Go.Ab
attribute [local simp] cA bA gZ own3 cV fB keep thr iv gv gu lI lH eo List.take_of_length_le
@[simp] theorem bz(user:Int)(v:UInt8)(c:UInt32)(ok:Bool):limf env 39 [.agg [aI user,a8 v,a32 c,aB ok]]=some (aI (bad (mayG user v c ok))):=by
 have h:=oC user v c ok
 refine aH (fn:=Try.f39) (c:=fe) rfl (by kernel_rfl) (by kernel_rfl) (by kernel_rfl) (by kernel_rfl) ?_;refine iJ _ _ _ fun g=>?_
 cases hm:mayG user v c ok<;>simp[ae,af,ab,ad,aa, *,fh,bad]
section
variable{xu xq:AV}{us:List Clear}{qs:List Quota}{gr:Int}(hu:Sl 3 (av us) xu)(hq:Sl 5 (ay qs) xq)(hql:qs.length<1000)(hul:us.length<1000)
include hu hq hql hul
theorem pP(user:Int)(v:UInt8)(c:UInt32)(ok:Bool)(h:hH us gr user≠0) :
 limf env 67 [.agg [xu,xq,aI gr],.agg [aI user,a8 v,a32 c,aB ok]]=some (.tup [.agg [xu,xq,aI gr],aI (hH us gr user)]):=by
 unfold hH at *
 refine aH (fn:=Try.f67) (c:=cr) rfl (by kernel_rfl) (by kernel_rfl) (by kernel_rfl) (by kernel_rfl) ?_;refine cY _ _ _ _ fun g=>?_
 have hlen:(av us).length=us.length:=by simp
 by_cases h1:(us.length:Int)≤user
 ·clear h
  simp[ae,af,ab,ad,aa, *,bH,hu.r,hq.r]
 ·by_cases h2:gr=0
  ·subst h2
   clear h
   simp[ae,af,ab,ad,aa, *,bH,hu.r,hq.r]
  ·rw[if_neg h1,if_neg h2]at h
   exact absurd rfl h
theorem pQ(user:Int)(v:UInt8)(c:UInt32)(ok:Bool)(h0:0≤user)(h:hH us gr user=0) :
 limf env 67 [.agg [xu,xq,aI gr],.agg [aI user,a8 v,a32 c,aB ok]]=some (.tup [.agg [.isl 3 (av (us.set user.toNat ⟨v,c,ok⟩)) none,iw 5 (ay qs),aI (IntKind.i64.wrap (gr - 1))],aI 0]):=by
 have hT:=oB (gr:=gr) hu hq (by omega) (by omega)
 unfold hH at h
 split at h
 ·cases h
 ·rename_i h1
  split at h
  ·cases h
  ·rename_i h2
   clear h
   have hw:dk (av us) user.toNat 0 [a8 v,a32 c,aB ok]=some (av (us.set user.toNat ⟨v,c,ok⟩)):=by
    have hlt:user.toNat<us.length:=by omega
    simp[jh,List.getElem?_eq_getElem hlt,Clear.enc,List.map_set]
   have hlen:(av us).length=us.length:=by simp
   have hne:av us≠[]:=by intro e;have:=congrArg List.length e;simp at this;subst this;simp at h1;omega
   have hlen2:(av (us.set user.toNat ⟨v,c,ok⟩)).length=us.length:=by simp
   rw[aN 3 hne]at hT
   generalize av (us.set user.toNat ⟨v,c,ok⟩)=es at *
   have h1':user<us.length:=by omega
   by_cases e2:qs=[]
   ·subst e2
    refine aH (fn:=Try.f67) (c:=cr) rfl (by kernel_rfl) (by kernel_rfl) (by kernel_rfl) (by kernel_rfl) ?_;refine cY _ _ _ _ fun g=>?_
    simp[ae,af,ab,ad,aa, *,bH,hu.r,hq.r]
   ·have n2:ay qs≠[]:=by simpa using e2
    rw[aN 5 n2]at hT
    rw[a6 5 n2]
    refine aH (fn:=Try.f67) (c:=cr) rfl (by kernel_rfl) (by kernel_rfl) (by kernel_rfl) (by kernel_rfl) ?_;refine cY _ _ _ _ fun g=>?_
    simp[ae,af,ab,ad,aa, *,bH,hu.r,hq.r]
theorem tw(user:Int)(v:UInt8)(c:UInt32)(ok:Bool)(h:ch us qs gr user v c ok≠0) :
 limf env 35 [.agg [xu,xq,aI gr],.agg [aI user,a8 v,a32 c,aB ok]]=some (.tup [.agg [aNil,aNil,aI 0],aI (ch us qs gr user v c ok)]):=by
 have hR:=mB (gr:=gr) hu hq (by omega) (by omega)
 have hG:=oC user v c ok
 have hB:=pP (gr:=gr) hu hq hql hul user v c ok
 refine aH (fn:=Try.f35) (c:=du) rfl (by kernel_rfl) (by kernel_rfl) (by kernel_rfl) (by kernel_rfl) ?_;refine eY _ _ _ _ fun g=>?_
 cases hm:mayB us qs gr with
 | false =>
  have e:ch us qs gr user v c ok=8:=by unfold ch;rw[hm];rfl
  rw[e]
  clear h hB e
  cases hg:mayG user v c ok<;>simp[ae,af,ab,ad,aa, *,bR,hu.r,hq.r,bad]
 | true =>
  rw[kz hm]at h ⊢
  cases hg:mayG user v c ok with
  | false =>
   clear h hB
   simp[ae,af,ab,ad,aa, *,bR,hu.r,hq.r,bad]
  | true =>
   rw[hg]at h
   simp only[if_true]at h ⊢
   have hB':=hB h
   have h' : ¬hH us gr user=0:=h
   clear hB h
   generalize hH us gr user=e at *
   simp[ae,af,ab,ad,aa, *,bR,hu.r,hq.r,bad]
theorem tx(user:Int)(v:UInt8)(c:UInt32)(ok:Bool)(h:ch us qs gr user v c ok=0) :
 limf env 35 [.agg [xu,xq,aI gr],.agg [aI user,a8 v,a32 c,aB ok]]=some (.tup [.agg [.isl 3 (av (us.set user.toNat ⟨v,c,ok⟩)) none,iw 5 (ay qs),aI (IntKind.i64.wrap (gr - 1))],aI 0]):=by
 have hR:=mB (gr:=gr) hu hq (by omega) (by omega)
 have hG:=oC user v c ok
 obtain⟨hm,_,h0,_,_⟩:=ju h
 rw[kz hm]at h
 split at h
 ·rename_i hg
  have hB:=pQ (gr:=gr) hu hq hql hul user v c ok h0 h
  have hvq:=(ia 5 (ay qs)).r
  rw[hm]at hR
  rw[hg]at hG
  clear hm hg h h0
  generalize iw 5 (ay qs)=yq at *
  refine aH (fn:=Try.f35) (c:=du) rfl (by kernel_rfl) (by kernel_rfl) (by kernel_rfl) (by kernel_rfl) ?_;refine eY _ _ _ _ fun g=>?_
  simp[ae,af,ab,ad,aa, *,bR,hu.r,hq.r,hvq,bad]
 ·cases h
end
theorem sP{f:FuncId}(hm:(env.mode f == 2)=false)(wk:Bool)(dep:Nat){H:Heap}(r:Ref){args xs:List AV}(hv:args.mapM (view H.get depth)=some xs)(hr:ba H.get args=[]){y:AV}(hy:limf env f xs=some y) :
 jt env wk (limf env) (limt env dep) H r (some (.fn (.func f) [] [])) args=some ((aD r depth y []).1,keyed r 0 (frzB true (aD r depth y []).2) H):=by
 have hm':env.mode f≠2:=by simpa using hm
 have e:([]++args++[]:List AV)=args:=by simp
 unfold jt
 simp only[hX,if_neg hm',e,hv,hy,hr]
 simp[dI,nRes,orW]
def dP(z:Nat)(es:List AV)(H:Heap)(x y:AV):Prop:=(x=y∧Sl z es y) ∨∃g k,x = .osl ⟨0,19,g,k⟩ 0 es.length none∧H.get ⟨0,19,g,k⟩=some ⟨z,es,true,true⟩∧y = .isl z es none
theorem dP.sl{z:Nat}{es:List AV}{H:Heap}{x y:AV}(h:dP z es H x y):Sl z es y:=by
 rcases h with ⟨_,h⟩ | ⟨g,k,_,_,rfl⟩
 ·exact h
 ·exact Sl.mk _ _
theorem dP.view{z:Nat}{es:List AV}{H:Heap}{x y:AV}(h:dP z es H x y)(n:Nat):Ab.view H.get (n+1) x=some y:=by
 rcases h with ⟨rfl,h⟩ | ⟨g,k,rfl,hr,rfl⟩
 ·exact h.view _ _
 ·rw[pF hr rfl]
theorem dP.refs{z:Nat}{es:List AV}{H:Heap}{x y:AV}(h:dP z es H x y)(n:Nat):dI H.get (ax H.get (n+1) x)=true:=by
 rcases h with ⟨rfl,h⟩ | ⟨g,k,rfl,hr,rfl⟩
 ·rw[h.refs];rfl
 ·simp[hr]
theorem dP.cells{z:Nat}{es:List AV}{H:Heap}{x y:AV}(h:dP z es H x y):x.cells=[x]∧x.one=true:=by
 rcases h with ⟨rfl,h⟩ | ⟨g,k,rfl,hr,rfl⟩
 ·exact h.cells
 ·exact⟨rfl,rfl⟩
theorem dP.keep{z:Nat}{es:List AV}{H H':Heap}{x y:AV}(h:dP z es H x y)(hs : ∀g k,(H.get ⟨0,19,g,k⟩).isSome=true→H'.get ⟨0,19,g,k⟩=H.get ⟨0,19,g,k⟩):dP z es H' x y:=by
 rcases h with h | ⟨g,k,rfl,hr,rfl⟩
 ·exact .inl h
 ·exact .inr ⟨g,k,rfl,by rw[hs g k (by rw[hr];rfl),hr],rfl⟩
theorem dP.of{z:Nat}{es:List AV}{x:AV}(h:Sl z es x)(H:Heap):dP z es H x x := .inl ⟨rfl,h⟩
theorem pz(g:Get)(a b:List Ref):dI g (a++b)=(dI g a&&dI g b):=by
 unfold dI;rw[List.all_append]
theorem od{f:FuncId}(hm:(env.mode f == 2)=false)(hm3:(env.mode f == 3)=false)(wk:Bool){H:Heap}(r:Ref){xu xq vu vq gg:AV}{eu eq:List AV}{gr:Int}(hu:dP 3 eu H xu vu)(hq:dP 5 eq H xq vq)(hg1:view H.get depth gg=some gg)(hg2:ax H.get depth gg=[])
 {y:AV} (hl:limf env f [.agg [vu,vq,aI gr],gg]=some y) (hy:aD r depth y []=(y,[])) :
 gy env wk (limf env) (limt env 0) H r (some (.fn (.func f) [] [])) [.agg [xu,xq,aI gr],gg]=some (y,H):=by
 rw[bA wk 0 H r f hm hm3 [] [] _]
 have e1:(([]++[AV.agg [xu,xq,aI gr],gg]++[]).mapM (view H.get depth))=some [.agg [vu,vq,aI gr],gg]:=by
  have h1:=hu.view 6
  have h2:=hq.view 6
  rw[cA]at hg1
  simp[hg1,h1,h2]
 rw[e1]
 show me wk H r _ (limf env f _)=_
 rw[hl]
 have e2:dI H.get (ba H.get ([]++[AV.agg [xu,xq,aI gr],gg]++[]))=true:=by
  have hu':=hu.refs 6
  have hq':=hq.refs 6
  rw[cA]at hg2
  have e (g:Get) (a:Int):ax g 7 (aI a)=[]:=rfl
  show dI H.get (([xu,xq,aI gr].flatMap (ax H.get 7))++(ax H.get 8 gg++[]))=true
  simp only[List.flatMap_cons,List.flatMap_nil,hg2,e,List.append_nil,pz,hu',hq',Bool.and_self]
 rw[fB wk H r _ y e2,hy]
 rfl
structure RInvF (H:Heap) (us:List Clear) (qs:List Quota) (gr:Int) (acc:List Int) (x7:AV):Prop where
 fr:Fr H
 box : ∃yu yq vu vq,H.get ⟨0,2,0,0⟩=some ⟨3,[.agg [yu,yq,aI gr]],false,false⟩∧dP 3 (av us) H yu vu∧dP 5 (ay qs) H yq vq
 out : ∃z1 z2 z3,H.get ⟨0,4,0,0⟩=some ⟨3,[.agg [z1,z2,z3]],false,false⟩
 row:nN [43] 1 (errs acc) H x7
theorem mi{H:Heap}{us:List Clear}{qs:List Quota}{gr:Int}{yu yq z1 z2 z3:AV}(hF:Fr H)(hb:H.get ⟨0,2,0,0⟩=some ⟨3,[.agg [yu,yq,aI gr]],false,false⟩)(su : ∃v,dP 3 (av us) H yu v)(sq : ∃v,dP 5 (ay qs) H yq v)
 (hz:H.get ⟨0,4,0,0⟩=some ⟨3,[.agg [z1,z2,z3]],false,false⟩):RInvF H us qs gr [] aNil:=by
 obtain⟨vu,su⟩:=su
 obtain⟨vq,sq⟩:=sq
 exact⟨hF,⟨yu,yq,vu,vq,hb,su,sq⟩,⟨z1,z2,z3,hz⟩,.inl ⟨rfl,rfl⟩⟩
theorem tF{l:List Gr}{x1:AV}(hx:Sl 4 (dH l) x1)(hl:l.length<100000){qs:List Quota}(hql:qs.length<1000){Q:AV→Heap→Prop} :
 ∀(s:List Gr)(k:Nat)(i:Int)(us:List Clear)(gr:Int)(acc:List Int)(x7:AV)(H:Heap),l.drop k=s→k≤l.length→i=k→acc.length=k→mayB us qs gr=true→RInvF H us qs gr acc x7 →
 (∀x7' H' yu yq vu vq,dP 3 (av (runF qs s us gr).2.1) H' yu vu→dP 5 (ay qs) H' yq vq→nN [43] 1 (errs (acc++(runF qs s us gr).1)) H' x7'→Q (.tup [.agg [yu,yq,aI (runF qs s us gr).2.2],x7',aI 0]) H') →
 GoL env Try.f37 0 bO [(8,aI i),(7,x7),(2,.ptr ⟨0,2,0,0⟩ 0 0),(1,x1),(4,.ptr ⟨0,4,0,0⟩ 0 0)] H Q:=by
 intro s
 induction s with
 | nil =>
  rintro k i us gr acc x7 H hs hk rfl ha hm hI hQ
  obtain rfl:=drop_nil hs hk
  obtain⟨hF,⟨yu,yq,vu,vq,hb,su,sq⟩,⟨z1,z2,z3,hz⟩,hO⟩:=hI
  refine eX _ _ _ _ _ _ _ fun g=>?_
  have l4:(H.get ⟨0,4,0,0⟩).isSome=true:=by rw[hz];rfl
  have hfin : ∀(b:Option Blk),Q (.tup [.agg [yu,yq,aI gr],x7,aI 0]) (H.put ⟨0,4,0,0⟩ b):=by
   intro b
   refine hQ x7 _ yu yq vu vq (su.keep fun g k _=>by rw[Heap.aj,if_neg (fun e=>by cases e)]) (sq.keep fun g k _=>by rw[Heap.aj,if_neg (fun e=>by cases e)]) ?_
   rcases hO with h | ⟨t,gg,ht,h1,h2⟩
   ·exact .inl (by simpa [runF] using h)
   ·rw[List.mem_singleton]at ht
    subst ht
    exact .inr ⟨43,gg,by simp,by simpa [runF] using h1,by rw[Heap.aj,if_neg (fun e=>by cases e)];simpa [runF] using h2⟩
  have cu:=su.cells
  have cq:=sq.cells
  clear hQ hO su sq hm
  simp[ae,af,ab,ad,aa, *,a9,cu,cq,hx.r]
  all_goals exact hfin _
 | cons p s ih =>
  rintro k i us gr acc x7 H hs hk rfl ha hm hI hQ
  obtain⟨hlt,hg,hs',hg'⟩:=drop_cons hs
  obtain⟨user,lv,cats,ok⟩:=p
  obtain⟨hF,⟨yu,yq,vu,vq,hb,su,sq⟩,⟨z1,z2,z3,hz⟩,hO⟩:=hI
  have e3:=IntWalk.i64_in ((k:Int)+1) (by omega)
  have hrd:eK (dH l) k 0 4 true=some (.agg [aI user,a8 lv,a32 cats,aB ok]):=by simp[Gr.enc,hg']
  have l2:(H.get ⟨0,2,0,0⟩).isSome=true:=by rw[hb];rfl
  have l4:(H.get ⟨0,4,0,0⟩).isSome=true:=by rw[hz];rfl
  have hlt':(k:Int)<l.length:=by omega
  have hmb:=n6 hm
  have hun:runF qs (⟨user,lv,cats,ok⟩ :: s) us gr=if ch us qs gr user lv cats ok=0 then (0 :: (runF qs s (us.set user.toNat ⟨lv,cats,ok⟩) (IntKind.i64.wrap (gr - 1))).1,(runF qs s (us.set user.toNat ⟨lv,cats,ok⟩) (IntKind.i64.wrap (gr - 1))).2) else (ch us qs gr user lv cats ok :: (runF qs s us gr).1,(runF qs s us gr).2):=rfl
  rw[hun]at hQ
  clear hun
  have hG:=oC user lv cats ok
  have sl:=su.sl
  have sq':=sq.sl
  have cu:=su.cells
  have cq:=sq.cells
  have cvu:=sl.r
  have cvq:=sq'.r
  have hgl:(dH l).length=l.length:=by simp
  have hst : ∀(e gr':Int)(us':List Clear)(g m:Nat)(yu' yq' vu' vq':AV)(H1:Heap),m=acc.length+1→Fr H1→H1.get ⟨0,2,0,0⟩=some ⟨3,[.agg [yu',yq',aI gr']],false,false⟩→H1.get ⟨0,4,0,0⟩=some ⟨3,[.agg [z1,z2,z3]],false,false⟩→H1.get ⟨0,43,g,0⟩=some ⟨1,errs acc++[aI e],true,false⟩ →
   dP 3 (av us') H1 yu' vu'→dP 5 (ay qs) H1 yq' vq'→RInvF H1 us' qs gr' (acc++[e]) (.osl ⟨0,43,g,0⟩ 0 m none):=by
   intro e gr' us' g m yu' yq' vu' vq' H1 hm' f1 f2 f3 f4 f5 f6
   subst hm'
   exact⟨f1,⟨_,_,_,_,f2,f5,f6⟩,⟨z1,z2,z3,f3⟩,.inr ⟨43,g,by simp,by simp,by rw[f4];simp⟩⟩
  have hal:acc.length<100000:=by omega
  have hpair:(∀(e:Int),aNil=x7→acc=[]→True):=fun _ _ _=>trivial
  clear hpair
  have hMay : ∀b,mayG user lv cats ok=b→gy env true (limf env) (limt env 0) H ⟨0,30,H.gen 0 30,0⟩ (some (.fn (.func 63) [] [])) [.agg [aI user,a8 lv,a32 cats,aB ok]]=some (aB b,H):=by
   rintro b rfl
   simp
  refine eX _ _ _ _ _ _ _ fun g=>?_
  by_cases he:ch us qs gr user lv cats ok=0
  ·rw[if_pos he]at hQ
   obtain⟨m1,m2,m3⟩:=rn he
   obtain⟨_,hcl,h0,h1,_⟩:=ju he
   rw[←m2]at m1
   clear m2 m3
   rw[kz hm]at he
   split at he
   ·rename_i hg
    have hM:=hMay true hg
    have hB:=pQ (gr:=gr) sl sq' hql (by omega) user lv cats ok h0 he
    have hvq:=ia 5 (ay qs)
    have hsc:=od (f:=67) (H:=H) (by kernel_rfl) (by kernel_rfl) false ⟨0,37,H.gen 0 37,0⟩ (gg := .agg [aI user,a8 lv,a32 cats,aB ok]) su sq (by simp) (by simp) hB (by simp[hvq.r])
    have hih:=fun x7' H''=>ih (k+1) ((k:Int)+1) (us.set user.toNat ⟨lv,cats,ok⟩) (IntKind.i64.wrap (gr - 1)) (acc++[0]) x7' H'' hs' (by omega) (by simp) (by simp;omega) m1
    have hst:=hst 0 (IntKind.i64.wrap (gr - 1)) (us.set user.toNat ⟨lv,cats,ok⟩)
    clear ha hMay hB ih m1 hcl h0 h1 he hg hmb hm su sq sl sq' cvu cvq hG
    generalize us.set user.toNat ⟨lv,cats,ok⟩=us' at *
    generalize IntKind.i64.wrap (gr - 1)=gr' at *
    have hQ' : ∀x7' H' yu yq vu vq,dP 3 (av (runF qs s us' gr').2.1) H' yu vu→dP 5 (ay qs) H' yq vq→nN [43] 1 (errs ((acc++[0])++(runF qs s us' gr').1)) H' x7'→Q (.tup [.agg [yu,yq,aI (runF qs s us' gr').2.2],x7',aI 0]) H':=fun x7' H' yu yq vu vq h1 h2 h3=>hQ x7' H' yu yq vu vq h1 h2 (by simpa using h3)
    clear hQ
    have hvr:=hvq.r
    have hso:=fun H1=>dP.of hvq H1
    have hsu:=fun H1=>dP.of (Sl.mk 3 (av us')) H1
    generalize iw 5 (ay qs)=wq at *
    rcases hO with ⟨rfl,hz0⟩ | ⟨t,gg,ht,rfl,hrr⟩
    ·have hz':acc=[]:=by simpa using hz0
     subst hz'
     have hst':=hst (H.gen 0 43) 1
     clear hst hz0
     simp[ae,af,ab,ad,aa, *,a9,hx.r,hx.idx, -bA]
     refine hih _ _ (hst' (.isl 3 (av us') none) wq (.isl 3 (av us') none) wq _ rfl ?_ ?_ ?_ ?_ ?_ ?_) hQ'
     ·exact by simp(maxDischargeDepth:=12) [Heap.aj,an,ai,Fr.nil,au,ae,af,ab,ad,al,ah,aa, *]
     ·exact by simp(maxDischargeDepth:=12) [Heap.aj,an,ai,Fr.nil,au,ae,af,ab,ad,al,ah,aa, *]
     ·exact by simp(maxDischargeDepth:=12) [Heap.aj,an,ai,Fr.nil,au,ae,af,ab,ad,al,ah,aa, *]
     ·exact by simp(maxDischargeDepth:=12) [Heap.aj,an,ai,Fr.nil,au,ae,af,ab,ad,al,ah,aa, *]
     ·exact hsu _
     ·exact hso _
    ·rw[List.mem_singleton]at ht
     subst ht
     have hst':=hst (H.gen 0 43) (acc.length+1)
     have l6:(H.get ⟨0,43,gg,0⟩).isSome=true:=by rw[hrr];rfl
     have hacc:(errs acc).length=acc.length:=by simp
     have f4:gA 1 8 acc.length true none (some ⟨1,errs acc,true,false⟩) (some [aI 0]):=by
      simp;omega
     clear hst
     simp[ae,af,ab,ad,aa, *,a9,hx.r,hx.idx, -bA]
     refine hih _ _ (hst' (.isl 3 (av us') none) wq (.isl 3 (av us') none) wq _ rfl ?_ ?_ ?_ ?_ ?_ ?_) hQ'
     ·exact by simp(maxDischargeDepth:=12) [Heap.aj,an,ai,Fr.nil,au,ae,af,ab,ad,al,ah,aa, *]
     ·exact by simp(maxDischargeDepth:=12) [Heap.aj,an,ai,Fr.nil,au,ae,af,ab,ad,al,ah,aa, *]
     ·exact by simp(maxDischargeDepth:=12) [Heap.aj,an,ai,Fr.nil,au,ae,af,ab,ad,al,ah,aa, *]
     ·exact by simp(maxDischargeDepth:=12) [Heap.aj,an,ai,Fr.nil,au,ae,af,ab,ad,al,ah,aa, *]
     ·exact hsu _
     ·exact hso _
   ·cases he
  ·rw[if_neg he]at hQ
   have hih:=fun x7' H''=>ih (k+1) ((k:Int)+1) us gr (acc++[ch us qs gr user lv cats ok]) x7' H'' hs' (by omega) (by simp) (by simp;omega) hm
   have hQ' : ∀x7' H' yu yq vu vq,dP 3 (av (runF qs s us gr).2.1) H' yu vu→dP 5 (ay qs) H' yq vq→nN [43] 1 (errs ((acc++[ch us qs gr user lv cats ok])++(runF qs s us gr).1)) H' x7'→Q (.tup [.agg [yu,yq,aI (runF qs s us gr).2.2],x7',aI 0]) H':=fun x7' H' yu yq vu vq h1 h2 h3=>hQ x7' H' yu yq vu vq h1 h2 (by simpa using h3)
   clear hQ ih
   rw[kz hm]at he hih hQ'
   cases hg:mayG user lv cats ok with
   | true =>
    have hM:=hMay true hg
    rw[hg]at he hih hQ'
    simp only[if_true]at he hih hQ'
    have hB:=pP (gr:=gr) sl sq' hql (by omega) user lv cats ok he
    have hsc:=od (f:=67) (H:=H) (by kernel_rfl) (by kernel_rfl) false ⟨0,37,H.gen 0 37,0⟩ (gg := .agg [aI user,a8 lv,a32 cats,aB ok]) su sq (by simp) (by simp) hB (by simp[cvu,cvq])
    have hst:=hst (hH us gr user) gr us
    have hso:=fun H1=>dP.of sq' H1
    have hsu:=fun H1=>dP.of sl H1
    clear ha hMay hB he hg hmb hm su sq sl sq' hG
    generalize hH us gr user=er at *
    rcases hO with ⟨rfl,hz0⟩ | ⟨t,gg,ht,rfl,hrr⟩
    ·have hz':acc=[]:=by simpa using hz0
     subst hz'
     have hst':=hst (H.gen 0 43) 1
     clear hst hz0
     simp[ae,af,ab,ad,aa, *,a9,hx.r,hx.idx, -bA]
     refine hih _ _ (hst' vu vq vu vq _ rfl ?_ ?_ ?_ ?_ ?_ ?_) hQ'
     ·exact by simp(maxDischargeDepth:=12) [Heap.aj,an,ai,Fr.nil,au,ae,af,ab,ad,al,ah,aa, *]
     ·exact by simp(maxDischargeDepth:=12) [Heap.aj,an,ai,Fr.nil,au,ae,af,ab,ad,al,ah,aa, *]
     ·exact by simp(maxDischargeDepth:=12) [Heap.aj,an,ai,Fr.nil,au,ae,af,ab,ad,al,ah,aa, *]
     ·exact by simp(maxDischargeDepth:=12) [Heap.aj,an,ai,Fr.nil,au,ae,af,ab,ad,al,ah,aa, *]
     ·exact hsu _
     ·exact hso _
    ·rw[List.mem_singleton]at ht
     subst ht
     have hst':=hst (H.gen 0 43) (acc.length+1)
     have l6:(H.get ⟨0,43,gg,0⟩).isSome=true:=by rw[hrr];rfl
     have hacc:(errs acc).length=acc.length:=by simp
     have f4:gA 1 8 acc.length true none (some ⟨1,errs acc,true,false⟩) (some [aI er]):=by
      simp;omega
     clear hst
     simp[ae,af,ab,ad,aa, *,a9,hx.r,hx.idx, -bA]
     refine hih _ _ (hst' vu vq vu vq _ rfl ?_ ?_ ?_ ?_ ?_ ?_) hQ'
     ·exact by simp(maxDischargeDepth:=12) [Heap.aj,an,ai,Fr.nil,au,ae,af,ab,ad,al,ah,aa, *]
     ·exact by simp(maxDischargeDepth:=12) [Heap.aj,an,ai,Fr.nil,au,ae,af,ab,ad,al,ah,aa, *]
     ·exact by simp(maxDischargeDepth:=12) [Heap.aj,an,ai,Fr.nil,au,ae,af,ab,ad,al,ah,aa, *]
     ·exact by simp(maxDischargeDepth:=12) [Heap.aj,an,ai,Fr.nil,au,ae,af,ab,ad,al,ah,aa, *]
     ·exact hsu _
     ·exact hso _
   | false =>
    have hM:=hMay false hg
    rw[hg]at he hih hQ'
    simp only[Bool.false_eq_true,if_false]at he hih hQ'
    have hst:=hst 8 gr us
    clear ha hMay he hg hmb hm sl sq' hG
    rcases hO with ⟨rfl,hz0⟩ | ⟨t,gg,ht,rfl,hrr⟩
    ·have hz':acc=[]:=by simpa using hz0
     subst hz'
     have hst':=hst (H.gen 0 43) 1
     have ku:=fun H1 h=>su.keep (H':=H1) h
     have kq:=fun H1 h=>sq.keep (H':=H1) h
     clear hst hz0 su sq
     simp[ae,af,ab,ad,aa, *,a9,hx.r,hx.idx, -bA]
     refine hih _ _ (hst' yu yq vu vq _ rfl ?_ ?_ ?_ ?_ ?_ ?_) hQ'
     ·exact by simp(maxDischargeDepth:=12) [Heap.aj,an,ai,Fr.nil,au,ae,af,ab,ad,al,ah,aa, *]
     ·exact by simp(maxDischargeDepth:=12) [Heap.aj,an,ai,Fr.nil,au,ae,af,ab,ad,al,ah,aa, *]
     ·exact by simp(maxDischargeDepth:=12) [Heap.aj,an,ai,Fr.nil,au,ae,af,ab,ad,al,ah,aa, *]
     ·exact by simp(maxDischargeDepth:=12) [Heap.aj,an,ai,Fr.nil,au,ae,af,ab,ad,al,ah,aa, *]
     ·exact ku _ fun g k hl=>by simp[ae hF hl]
     ·exact kq _ fun g k hl=>by simp[ae hF hl]
    ·rw[List.mem_singleton]at ht
     subst ht
     have hst':=hst (H.gen 0 43) (acc.length+1)
     have l6:(H.get ⟨0,43,gg,0⟩).isSome=true:=by rw[hrr];rfl
     have hacc:(errs acc).length=acc.length:=by simp
     have f4:gA 1 8 acc.length true none (some ⟨1,errs acc,true,false⟩) (some [aI 8]):=by
      simp;omega
     have ku:=fun H1 h=>su.keep (H':=H1) h
     have kq:=fun H1 h=>sq.keep (H':=H1) h
     clear hst su sq
     simp[ae,af,ab,ad,aa, *,a9,hx.r,hx.idx, -bA]
     refine hih _ _ (hst' yu yq vu vq _ rfl ?_ ?_ ?_ ?_ ?_ ?_) hQ'
     ·exact by simp(maxDischargeDepth:=12) [Heap.aj,an,ai,Fr.nil,au,ae,af,ab,ad,al,ah,aa, *]
     ·exact by simp(maxDischargeDepth:=12) [Heap.aj,an,ai,Fr.nil,au,ae,af,ab,ad,al,ah,aa, *]
     ·exact by simp(maxDischargeDepth:=12) [Heap.aj,an,ai,Fr.nil,au,ae,af,ab,ad,al,ah,aa, *]
     ·exact by simp(maxDischargeDepth:=12) [Heap.aj,an,ai,Fr.nil,au,ae,af,ab,ad,al,ah,aa, *]
     ·exact ku _ fun g k hl=>by simp[ae hF hl]
     ·exact kq _ fun g k hl=>by simp[ae hF hl]
theorem xD{xu xq x1:AV}{us:List Clear}{qs:List Quota}{gr:Int}{l:List Gr}(hu:Sl 3 (av us) xu)(hq:Sl 5 (ay qs) xq)(hl:Sl 4 (dH l) x1)(hql:qs.length<1000)(hul:us.length<1000)(hll:l.length≤2048)(hm:mayB us qs gr=true) :
 ∃yu yq ye,Sl 3 (av (runF qs l us gr).2.1) yu∧Sl 5 (ay qs) yq∧Sl 1 (errs (runF qs l us gr).1) ye∧limf env 37 [.agg [xu,xq,aI gr],x1]=some (.tup [.agg [yu,yq,aI (runF qs l us gr).2.2],ye,aI 0]):=by
 have hC:=mB (gr:=gr) hu hq (by omega) (by omega)
 rw[hm]at hC
 have hT:=oB (gr:=gr) hu hq (by omega) (by omega)
 obtain⟨R,hR⟩ : ∃R:AV→Prop,R=fun y =>∃yu yq ye,Sl 3 (av (runF qs l us gr).2.1) yu∧Sl 5 (ay qs) yq∧Sl 1 (errs (runF qs l us gr).1) ye∧y = .tup [.agg [yu,yq,aI (runF qs l us gr).2.2],ye,aI 0]:=⟨_,rfl⟩
 have h : ∃y,limf env 37 [.agg [xu,xq,aI gr],x1]=some y∧R y:=by
  refine rN (fn:=Try.f37) (c:=cg) rfl (by kernel_rfl) (by kernel_rfl) (by kernel_rfl) (by kernel_rfl) ?_
  refine dN _ _ _ _ fun g=>?_
  have hloop:=fun(H:Heap)(Q:AV→Heap→Prop)=>tF (H:=H) (Q:=Q) hl (by omega) (qs:=qs) hql l 0 0 us gr [] aNil
  have hfin : ∀x7' H' yu yq vu vq,dP 3 (av (runF qs l us gr).2.1) H' yu vu→dP 5 (ay qs) H' yq vq→nN [43] 1 (errs ([]++(runF qs l us gr).1)) H' x7' →∃y,iq env 37 (.tup [.agg [yu,yq,aI (runF qs l us gr).2.2],x7',aI 0]) H' y∧R y:=by
   intro x7' H' yu yq vu vq su sq so
   rw[List.nil_append]at so
   have hu':=su.view
   have hq':=sq.view
   subst hR
   rcases so with ⟨rfl,e8⟩ | ⟨t,gg,ht,rfl,hrr⟩
   ·exact⟨.tup [.agg [vu,vq,aI (runF qs l us gr).2.2],aNil,aI 0],(by show view H'.get 8 _=_;simp[hu',hq']),vu,vq,aNil,su.sl,sq.sl,.inl ⟨rfl,e8⟩,rfl⟩
   ·exact⟨.tup [.agg [vu,vq,aI (runF qs l us gr).2.2],.isl 1 (errs (runF qs l us gr).1) none,aI 0],(by show view H'.get 8 _=_;simp[hu',hq',hrr]),vu,vq,_,su.sl,sq.sl,Sl.mk _ _,rfl⟩
  have hlen : ¬(2048:Int)<l.length:=by omega
  have run:=fun H hI=>hloop H (fun x H =>∃y,iq env 37 x H y∧R y) rfl (by omega) rfl rfl hm hI hfin
  have hTF:=fun H r=>sP (H:=H) (f:=20) (by kernel_rfl) true 0 r (args:=[.agg [xu,xq,aI gr]]) (by simp[hu.r,hq.r]) (by simp[hu.r,hq.r]) hT
  clear hfin hloop hR hT
  by_cases e1:us=[]<;>by_cases e2:qs=[]
  ·subst e1 e2
   simp[ae,af,ab,ad,aa, *,bn,hu.r,hq.r,hl.r,bad,frzB]
   refine run _ ?_
   refine mi ?_ rfl ?_ ?_ rfl
   ·exact by simp(maxDischargeDepth:=12) [Heap.aj,an,ai,Fr.nil,au,ae,af,ab,ad,al,ah,aa, *]
   ·exact⟨_,dP.of (.inl ⟨rfl,rfl⟩) _⟩
   ·exact⟨_,dP.of (.inl ⟨rfl,rfl⟩) _⟩
  ·subst e1
   have n2:ay qs≠[]:=by simpa using e2
   rw[aN 5 n2]at hTF
   simp[ae,af,ab,ad,aa, *,bn,hu.r,hq.r,hl.r,bad,frzB]
   refine run _ ?_
   refine mi ?_ rfl ?_ ?_ rfl
   ·exact by simp(maxDischargeDepth:=12) [Heap.aj,an,ai,Fr.nil,au,ae,af,ab,ad,al,ah,aa, *]
   ·exact⟨_,dP.of (.inl ⟨rfl,rfl⟩) _⟩
   ·exact⟨_,.inr ⟨0,0,by simp,rfl,rfl⟩⟩
  ·subst e2
   have n1:av us≠[]:=by simpa using e1
   rw[aN 3 n1]at hTF
   simp[ae,af,ab,ad,aa, *,bn,hu.r,hq.r,hl.r,bad,frzB]
   refine run _ ?_
   refine mi ?_ rfl ?_ ?_ rfl
   ·exact by simp(maxDischargeDepth:=12) [Heap.aj,an,ai,Fr.nil,au,ae,af,ab,ad,al,ah,aa, *]
   ·exact⟨_,.inr ⟨0,0,by simp,rfl,rfl⟩⟩
   ·exact⟨_,dP.of (.inl ⟨rfl,rfl⟩) _⟩
  ·have n1:av us≠[]:=by simpa using e1
   have n2:ay qs≠[]:=by simpa using e2
   rw[aN 3 n1,aN 5 n2]at hTF
   simp[ae,af,ab,ad,aa, *,bn,hu.r,hq.r,hl.r,bad,frzB]
   refine run _ ?_
   refine mi ?_ rfl ?_ ?_ rfl
   ·exact by simp(maxDischargeDepth:=12) [Heap.aj,an,ai,Fr.nil,au,ae,af,ab,ad,al,ah,aa, *]
   ·exact⟨_,.inr ⟨0,0,by simp,rfl,rfl⟩⟩
   ·exact⟨_,.inr ⟨0,1,by simp,rfl,rfl⟩⟩
 subst hR
 obtain⟨y,hy,yu,yq,ye,h1,h2,h3,rfl⟩:=h
 exact⟨yu,yq,ye,h1,h2,h3,hy⟩
theorem vx{xu xq x1:AV}{us:List Clear}{qs:List Quota}{gr:Int}{l:List Gr}(hu:Sl 3 (av us) xu)(hq:Sl 5 (ay qs) xq)(hl:Sl 4 (dH l) x1)(hql:qs.length<1000)(hul:us.length<1000)(hm:mayB us qs gr=false) :
 limf env 37 [.agg [xu,xq,aI gr],x1]=some (.tup [.agg [aNil,aNil,aI 0],aNil,aI 8]):=by
 have hC:=mB (gr:=gr) hu hq (by omega) (by omega)
 rw[hm]at hC
 clear hm
 refine aH (fn:=Try.f37) (c:=cg) rfl (by kernel_rfl) (by kernel_rfl) (by kernel_rfl) (by kernel_rfl) ?_;refine dN _ _ _ _ fun g=>?_
 simp[ae,af,ab,ad,aa, *,bn,hu.r,hq.r,hl.r,bad]
theorem vw{xu xq x1:AV}{us:List Clear}{qs:List Quota}{gr:Int}{l:List Gr}(hu:Sl 3 (av us) xu)(hq:Sl 5 (ay qs) xq)(hl:Sl 4 (dH l) x1)(hql:qs.length<1000)(hul:us.length<1000)(hm:mayB us qs gr=true)(hll:(2048:Int)<l.length) :
 limf env 37 [.agg [xu,xq,aI gr],x1]=some (.tup [.agg [aNil,aNil,aI 0],aNil,aI 4]):=by
 have hC:=mB (gr:=gr) hu hq (by omega) (by omega)
 rw[hm]at hC
 clear hm
 refine aH (fn:=Try.f37) (c:=cg) rfl (by kernel_rfl) (by kernel_rfl) (by kernel_rfl) (by kernel_rfl) ?_;refine dN _ _ _ _ fun g=>?_
 simp[ae,af,ab,ad,aa, *,bn,hu.r,hq.r,hl.r,bad]
end Go.Proofs.Ytgooemdlilfkmaa
