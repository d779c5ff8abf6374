/-
  'Rows.GrantTellsSaid': the law's loops. No conditions.
-/
import Derived.Test.YtgooemdlilfkmaaGtRef
import Derived.Test.YtgooemdlilfkmaaGtVl8
set_option linter.unusedVariables false
set_option linter.unusedSimpArgs false
set_option linter.unusedSectionVars false
set_option linter.unnecessarySimpa false
set_option maxRecDepth 100000
namespace Go.Proofs.Ytgooemdlilfkmaa
open Go.Ab
attribute [local simp] cA bA gZ own3 m6 cV fB keep thr iv gv gu lI lH eo List.take_of_length_le
def nO(t z:Nat)(es:List AV)(H:Heap)(x:AV):Prop :=∃r,r.t=t∧Mine z es H x r
theorem aR(t z:Nat)(H:Heap):nO t z [] H aNil:=⟨⟨0,t,0,0⟩,rfl,.inl ⟨rfl,rfl⟩⟩
theorem aP{t z n:Nat}{es:List AV}{H:Heap}{r:Ref}{c:Option Nat}(ht:r.t=t)(h:H.get r=some ⟨z,es,true,false⟩)(hn:n=es.length):nO t z es H (.osl r 0 n c):=by
 subst hn
 exact⟨r,ht,.inr ⟨c,rfl,h⟩⟩
def ql(t z:Nat)(es:List AV)(H:Heap)(x:AV):Prop :=∃v,gB z es H x v ∧∀r,x.at?=some r→r.t=t
theorem aA(t z:Nat)(H:Heap):ql t z [] H aNil:=⟨aNil,gB.of (.inl ⟨rfl,rfl⟩) H,fun r e=>nomatch e⟩
theorem az{t z n:Nat}{es:List AV}{H:Heap}{r:Ref}(ht:r.t=t)(h:H.get r=some ⟨z,es,true,false⟩)(hn:n=es.length):ql t z es H (.osl r 0 n none):=by
 subst hn
 exact⟨_,.inr ⟨r,none,false,rfl,h,rfl,Nat.le_refl _⟩,fun q e=>by cases e;exact ht⟩
theorem ql.put{t z:Nat}{es:List AV}{H:Heap}{x:AV}(h:ql t z es H x){r:Ref}(hr:r.t≠t)(b:Option Blk):ql t z es (H.put r b) x:=by
 obtain⟨v,hs,ht⟩:=h
 exact⟨v,hs.put (fun e=>hr (ht r e)) b,ht⟩
theorem nO.put{t z:Nat}{es:List AV}{H:Heap}{x:AV}(h:nO t z es H x){r:Ref}(hr:r.t≠t)(b:Option Blk):nO t z es (H.put r b) x:=by
 obtain⟨q,ht,hm⟩:=h
 refine⟨q,ht,?_⟩
 rcases hm with hm | ⟨c,h1,h2⟩
 ·exact .inl hm
 ·exact .inr ⟨c,h1,by rw[Heap.aj,if_neg (by rintro rfl;exact hr ht)];exact h2⟩
structure GInv (H:Heap) (ya za yc zc ou oq xu xq:AV) (ga gc gr:Int) (us:List Clear) (qs:List Quota):Prop where
 a:H.get ⟨0,8,0,0⟩=some ⟨3,[.agg [ya,za,aI ga]],false,false⟩
 c:H.get ⟨0,12,0,0⟩=some ⟨3,[.agg [yc,zc,aI gc]],false,false⟩
 o:H.get ⟨0,7,0,0⟩=some ⟨3,[.agg [ou,oq,aI gr]],false,false⟩
 p:H.get ⟨0,3,0,0⟩=some ⟨3,[.agg [xu,xq,aI gr]],false,false⟩
 u:ql 40 3 (av us) H ou
 q:ql 40 5 (ay qs) H oq
theorem GInv.put{H:Heap}{ya za yc zc ou oq xu xq:AV}{ga gc gr:Int}{us:List Clear}{qs:List Quota}(h:GInv H ya za yc zc ou oq xu xq ga gc gr us qs){r:Ref}(hr:r.t=44∨r.t=56)(b:Option Blk):GInv (H.put r b) ya za yc zc ou oq xu xq ga gc gr us qs where
 a:=by rw[Heap.aj,if_neg (by rintro rfl;rcases hr with h | h<;>cases h)];exact h.a
 c:=by rw[Heap.aj,if_neg (by rintro rfl;rcases hr with h | h<;>cases h)];exact h.c
 o:=by rw[Heap.aj,if_neg (by rintro rfl;rcases hr with h | h<;>cases h)];exact h.o
 p:=by rw[Heap.aj,if_neg (by rintro rfl;rcases hr with h | h<;>cases h)];exact h.p
 u:=h.u.put (by omega) b
 q:=h.q.put (by omega) b
section
variable{ya za yc zc ou oq xu xq:AV}{ga gc gr:Int}{us:List Clear}{qs:List Quota}(hu:Sl 3 (av us) xu)(hq:Sl 5 (ay qs) xq)(hql:qs.length<1000)(hul:us.length<1000)
include hu hq hql hul
theorem gt18{Q:AV→Heap→Prop} : ∀(d k:Nat)(i:Int)(uc:List Clear)(H:Heap),k+d=uc.length→uc.length<1000→i=k→GInv H ya za yc zc ou oq xu xq ga gc gr us qs→nO 56 3 (av uc) H yc→(∀y H',y=aB true→Q y H') →
 GoL env Try.f8 0 bt [(21,aI i),(12,.ptr ⟨0,12,0,0⟩ 0 0),(3,.ptr ⟨0,3,0,0⟩ 0 0),(7,.ptr ⟨0,7,0,0⟩ 0 0),(18,aB true)] H Q:=by
 intro d
 induction d with
 | zero =>
  rintro k i uc H hk hul2 rfl hT ⟨rc,tc,hM⟩ hQ
  obtain⟨vu,su,tu⟩:=hT.u
  obtain⟨vq,sq,tq⟩:=hT.q
  refine db _ _ _ _ _ _ _ fun g=>?_
  have hS:=qB (gr:=gr) (gr':=gr) su.sl sq.sl hu hq (by omega) (by omega)
  have hk' : ¬(k:Int)<uc.length:=by omega
  have ml:=hM.len
  have mc:=hM.cells
  have ur:=su.r
  have qr:=sq.r
  have ha:=hT.a
  have hc:=hT.c
  have ho:=hT.o
  have hp:=hT.p
  clear hM su sq tu tq hT
  simp[ae,af,ab,ad,aa, *,bX,hu.r,hq.r]
  all_goals exact hQ _ _ rfl
 | succ d ih =>
  rintro k i uc H hk hul2 rfl hT ⟨rc,tc,hM⟩ hQ
  have hlt:k<uc.length:=by omega
  obtain⟨c,rfl,hr⟩:=hM.osl (k:=k) (by simpa using hlt)
  refine db _ _ _ _ _ _ _ fun g=>?_
  have e:=IntWalk.i64_in ((k:Int)+1) (by omega)
  obtain⟨⟨c1,c2,c3⟩,hg⟩ : ∃c0,uc[k]?=some c0:=⟨_,List.getElem?_eq_getElem hlt⟩
  have hw:dk (av uc) k 2 [aB (!c3)]=some (av (uc.set k ⟨c1,c2, !c3⟩)):=by
   simp[jh,hg,Clear.enc,List.map_set]
  have hrd:eK (av uc) k 2 1 false=some (aB c3):=by simp[hg,Clear.enc]
  have hlu:(av uc).length=uc.length:=by simp
  have ha:=hT.a
  have hc:=hT.c
  have ho:=hT.o
  have hp:=hT.p
  have hih:=fun H' h1 h2=>ih (k+1) ((k:Int)+1) (uc.set k ⟨c1,c2, !c3⟩) H' (by simp;omega) (by simp;omega) (by simp) h1 h2 hQ
  have hT':=fun b=>hT.put (r:=rc) (.inr tc) b
  clear ih hT hM
  simp[ae,af,ab,ad,aa, *,bX]
  exact hih _ (hT' _) (aP tc (by simp[List.map_set,Clear.enc]) (by simp))
theorem gt14{uc:List Clear}(huc:uc.length<1000){Q:AV→Heap→Prop} : ∀(d k:Nat)(i:Int)(ua:List Clear)(H:Heap),k+d=ua.length→ua.length<1000→i=k→GInv H ya za yc zc ou oq xu xq ga gc gr us qs→nO 44 3 (av ua) H ya→nO 56 3 (av uc) H yc→(∀y H',y=aB true→Q y H') →
 GoL env Try.f8 0 bu [(20,aI i),(8,.ptr ⟨0,8,0,0⟩ 0 0),(12,.ptr ⟨0,12,0,0⟩ 0 0),(3,.ptr ⟨0,3,0,0⟩ 0 0),(7,.ptr ⟨0,7,0,0⟩ 0 0),(18,aB true)] H Q:=by
 intro d
 induction d with
 | zero =>
  rintro k i ua H hk hul2 rfl hT ⟨ra,ta,hM⟩ hC hQ
  refine dc _ _ _ _ _ _ _ _ fun g=>?_
  have hk' : ¬(k:Int)<ua.length:=by omega
  have ml:=hM.len
  have mc:=hM.cells
  have ha:=hT.a
  have hfin:=gt18 hu hq hql hul uc.length 0 0 uc H (by omega) huc rfl hT hC hQ
  clear hM hT hC hQ
  simp[ae,af,ab,ad,aa, *,bY]
  all_goals exact hfin
 | succ d ih =>
  rintro k i ua H hk hul2 rfl hT ⟨ra,ta,hM⟩ hC hQ
  have hlt:k<ua.length:=by omega
  obtain⟨c,rfl,hr⟩:=hM.osl (k:=k) (by simpa using hlt)
  refine dc _ _ _ _ _ _ _ _ fun g=>?_
  have e:=IntWalk.i64_in ((k:Int)+1) (by omega)
  obtain⟨⟨c1,c2,c3⟩,hg⟩ : ∃c0,ua[k]?=some c0:=⟨_,List.getElem?_eq_getElem hlt⟩
  have hw:dk (av ua) k 2 [aB (!c3)]=some (av (ua.set k ⟨c1,c2, !c3⟩)):=by
   simp[jh,hg,Clear.enc,List.map_set]
  have hrd:eK (av ua) k 2 1 false=some (aB c3):=by simp[hg,Clear.enc]
  have hlu:(av ua).length=ua.length:=by simp
  have ha:=hT.a
  have hih:=fun H' h1 h2 h3=>ih (k+1) ((k:Int)+1) (ua.set k ⟨c1,c2, !c3⟩) H' (by simp;omega) (by simp;omega) (by simp) h1 h2 h3 hQ
  have hT':=fun b=>hT.put (r:=ra) (.inl ta) b
  have hC':=fun b=>hC.put (r:=ra) (by omega) b
  clear ih hT hM hC
  simp[ae,af,ab,ad,aa, *,bY]
  exact hih _ (hT' _) (aP ta (by simp[List.map_set,Clear.enc]) (by simp)) (hC' _)
theorem gt10{ua uc:List Clear}(hua:ua.length<1000)(huc:uc.length<1000){es:List Int}{x13 x16:AV}(hy:Sl 1 (errs es) x16)(hel:es.length<100000){H:Heap}(hx:ql 56 1 (errs es) H x13)(hT:GInv H ya za yc zc ou oq xu xq ga gc gr us qs)(hA:nO 44 3 (av ua) H ya)(hC:nO 56 3 (av uc) H yc){Q:AV→Heap→Prop}(hQ : ∀y H',y=aB true→Q y H') : ∀(s:List Int)(k:Nat)(i:Int),es.drop k=s→k≤es.length→i=k →
 GoL env Try.f8 0 bw [(19,aI i),(16,x16),(13,x13),(8,.ptr ⟨0,8,0,0⟩ 0 0),(12,.ptr ⟨0,12,0,0⟩ 0 0),(3,.ptr ⟨0,3,0,0⟩ 0 0),(7,.ptr ⟨0,7,0,0⟩ 0 0),(18,aB true)] H Q:=by
 obtain⟨v,hx,_⟩:=hx
 intro s
 induction s with
 | nil =>
  rintro k i hs hk rfl
  obtain rfl:=drop_nil hs hk
  have hfin:=gt14 hu hq hql hul huc ua.length 0 0 ua H (by omega) hua rfl hT hA hC hQ
  have hr:=hx.r
  refine de _ _ _ _ _ _ _ _ _ _ fun g=>?_
  clear hT hA hC hQ hx
  simp[ae,af,ab,ad,aa, *,bx]
  all_goals exact hfin
 | cons e s ih =>
  rintro k i hs hk rfl
  obtain⟨hlt,hg,hs',hg'⟩:=drop_cons hs
  have e3:=IntWalk.i64_in ((k:Int)+1) (by omega)
  have hrd:eK (errs es) k 0 1 false=some (aI e):=by simp[hg']
  have hfin:=ih (k+1) ((k:Int)+1) hs' (by omega) (by simp)
  have hr:=hx.r
  have hlen:(errs es).length=es.length:=by simp
  refine de _ _ _ _ _ _ _ _ _ _ fun g=>?_
  clear ih hT hA hC hQ hs hs'
  rcases hx with ⟨rfl,hx⟩ | ⟨r,c,fz,rfl,hr',rfl,hc⟩
  ·simp[ae,af,ab,ad,aa, *,bx,hx.r,hx.idx,hy.r,hy.idx]
   all_goals exact hfin
  ·rw[hlen]at hfin hc
   simp[ae,af,ab,ad,aa, *,bx,hy.r,hy.idx]
   all_goals exact hfin
end
end Go.Proofs.Ytgooemdlilfkmaa
