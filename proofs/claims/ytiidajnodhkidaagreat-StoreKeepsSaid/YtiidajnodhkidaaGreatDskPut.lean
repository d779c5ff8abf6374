/-
  Disks written: what the function answers. No statement of a seat is proved here.
-/
import Derived.Test.YtiidajnodhkidaaGreatMDskFns2
set_option linter.unusedVariables false
set_option linter.unusedSimpArgs false
set_option linter.unusedSectionVars false
set_option linter.unnecessarySimpa false
set_option maxRecDepth 100000
namespace Go.Proofs.YtiidajnodhkidaaGreat
open Go.Ab
attribute [local simp] ct bK bO bN keep thr cC bD bP eE eD cN cB aV dk List.take_of_length_le
theorem Hs{es:List AV}{H:Heap}{s v:AV}{n:Nat}{rv:Ref}{cv:Option Nat}{fz:Bool}{ref:Ref}{k:AV→Heap→Prop}(hs:RowS es H s)(hv:H.get rv=some ⟨2,[v],true,fz⟩)(hc:(cv.getD 1)=1)(hsv:s.at?≠some rv)(hn:n≤es.length)(hl:es.length<1000000)(hF:Fr H)
 (hk : ∀r' H',H'.get r'=some ⟨2,kC es n v,true,false⟩→Fr H'→(∀q b,H.get q=some b→s.at?≠some q→H'.get q=some b∧r'≠q)→k (.osl r' 0 (es.length+1) none) H') :
 doW (cl env true (limf env) (limt env 0) H ref (some (.fn (.func 112) [] [])) [s,aI n,.osl rv 0 1 cv]) k:=by
 obtain⟨r',H',h1,h2,h3,h4⟩:=LI hs hv hc hsv hn hl hF 0
 refine Ds (v := .osl r' 0 (es.length+1) none) (H:=H') ?_ (hk r' H' h2 h3 h4)
 rw[HP (by kernel_rfl)]
 exact h1
theorem Cw : ∀(l:List Sec)(a:Int),ascS a (twL l)=ascS a l:=by
 intro l
 induction l with
 | nil=>intro a;rfl
 | cons p l ih=>intro a;show(_&&ascS p.pos (twL l))=_;rw[ih];rfl
theorem R8(l:List Sec)(q:Int):nth (twL l) q=nth l q:=by
 unfold nth
 induction l with
 | nil=>rfl
 | cons p l ih =>
  show((twS p :: twL l).takeWhile _).length=_
  by_cases h:p.pos<q
  ·have h1:decide ((twS p).pos<q)=true:=decide_eq_true h
   have h2:decide (p.pos<q)=true:=decide_eq_true h
   rw[List.takeWhile_cons_of_pos (p:=fun s:Sec=>decide (s.pos<q)) h1,List.takeWhile_cons_of_pos (p:=fun s:Sec=>decide (s.pos<q)) h2,List.length_cons,List.length_cons,ih]
  ·have h1 : ¬decide ((twS p).pos<q)=true:=by rw[decide_eq_true_eq];exact h
   have h2 : ¬decide (p.pos<q)=true:=by rw[decide_eq_true_eq];exact h
   rw[List.takeWhile_cons_of_neg (p:=fun s:Sec=>decide (s.pos<q)) h1,List.takeWhile_cons_of_neg (p:=fun s:Sec=>decide (s.pos<q)) h2]
theorem R9(l:List Sec)(q:Int)(n:Nat):jX (twL l) q n=jX l q n:=by
 unfold jX twL
 rw[List.getElem?_map]
 cases l[n]?<;>rfl
def newS(q:Int)(b:List UInt8):Sec:=⟨q,b,.isl 1 (by8 b) none⟩
def wrL(l:List Sec)(q:Int)(b:List UInt8):List Sec :=
 if jX l q (nth l q) then (twL l).set (nth l q) (newS q b) else (twL l).take (nth l q)++newS q b :: (twL l).drop (nth l q)
theorem TE{l:List Sec}{q:Int}{n:Nat}(hh:jX l q n=true) : ∃h:n<l.length,l[n].pos=q:=by
 unfold jX at hh
 cases h:l[n]? with
 | none=>rw[h]at hh;cases hh
 | some s =>
  obtain⟨h1,h2⟩:=List.getElem?_eq_some_iff.1 h
  rw[h]at hh
  exact⟨h1,by rw[h2];simpa using hh⟩
theorem Pd(l:List Sec)(n:Nat)(h:n<l.length)(b:List UInt8):fN (encS l) n 1 [.isl 1 (by8 b) none]=some (encS (l.set n (newS l[n].pos b))):=by
 have e:(encS l)[n]?=some l[n].enc:=by simp[encS,h]
 unfold fN
 rw[e]
 unfold encS
 rw[List.map_set]
 rfl
theorem PR(l:List Sec)(n:Nat)(h:n≤l.length)(q:Int)(b:List UInt8):fN (kC (encS l) n (.agg [aI q,aNil])) n 1 [.isl 1 (by8 b) none]=some (encS (l.take n++newS q b :: l.drop n)):=by
 have e0:((encS l).take n).length=n:=by simp;omega
 have e:(kC (encS l) n (.agg [aI q,aNil]))[n]?=some (.agg [aI q,aNil]):=by
  unfold kC
  rw[List.getElem?_append_right (by omega),e0,Nat.sub_self];rfl
 unfold fN
 rw[e]
 have e2:(kC (encS l) n (.agg [aI q,aNil])).set n (newS q b).enc=encS (l.take n++newS q b :: l.drop n):=by
  unfold kC
  rw[List.set_append_right _ _ (by omega),e0,Nat.sub_self,List.set_cons_zero]
  simp[encS]
 rw[←e2]
 rfl
section
variable{l:List Sec}{x xb:AV}{st lf:Int}{dd:Bool}{b:List UInt8}(hx:Sl 2 (encS l) x)(hok : ∀s∈l,oL s)(hl:l.length<500000)(hb:Sl 1 (by8 b) xb)
include hx hok hl hb
theorem Eg{q:Int}(hd:dOk l st lf dd=true)(hq:0≤q∧q<6146)(h128:b.length=128)(hdd:dd=true∨lf=0):limf env 71 [dsk x st lf dd,aI q,xb]=some (
 .tup [dsk (vw (twA x l)) st lf true,aI 0]):=by
 refine aH (fn:=Tryz.f71) (c:=pM) rfl (by kernel_rfl) (by kernel_rfl) (by kernel_rfl) (by kernel_rfl) ?_;refine tq _ _ _ _ _ fun g=>?_
 have hA:=Ef (st:=st) (lf:=lf) (dd:=dd) hx hok (by omega) (q:=q)
 have hbl:=hb.r
 have hT:=xq (st:=st) (lf:=lf) (dd:=dd) hx hok (tg l (-1) (vi hd)) (by omega)
 have ou:=uR hx
 generalize twA x l=y at *
 simp[hd,hq]at hA
 simp only[dsk]at hA hT ⊢
 clear hok hd hq
 rcases hdd with rfl | rfl
 ·rcases ou with ⟨rfl,h3⟩ | rfl | ⟨rfl,h3⟩<;>simp[af,ah,ad,ae,aa, *,eP,hx.r,vw]
 ·cases dd<;>rcases ou with ⟨rfl,h3⟩ | rfl | ⟨rfl,h3⟩<;>simp[af,ah,ad,ae,aa, *,eP,hx.r,vw]
theorem IV{q:Int}(hd:dOk l st lf false=true)(hq:0≤q∧q<6146)(h128:b.length=128)(hlf : ¬lf=0):limf env 71 [dsk x st lf false,aI q,xb]=some (
 .tup [dsk (.isl 2 (encS (wrL l q b)) none) st (if lf>0 then lf - 1 else lf) false,aI 0]):=by
 refine aH (fn:=Tryz.f71) (c:=pM) rfl (by kernel_rfl) (by kernel_rfl) (by kernel_rfl) (by kernel_rfl) ?_;refine tq _ _ _ _ _ fun g=>?_
 have hA:=Ef (st:=st) (lf:=lf) (dd:=false) hx hok (by omega) (q:=q)
 have hbl:=hb.r
 have ho:=OT hb h128
 have hT:=xq (st:=st) (lf:=lf) (dd:=false) hx hok (tg l (-1) (vi hd)) (by omega)
 have ou:=uR hx
 have hasc:=vi hd
 have hll:(twL l).length<500000:=by simpa using hl
 have hft:=fun(y:AV)(st lf:Int)(dd:Bool)(hy:Sl 2 (encS (twL l)) y)=>Nx (st:=st) (lf:=lf) (dd:=dd) hy (Cx l) (by omega) (F2 q (twL l) (-1) (by rw[Cw];exact hasc)) (JH _ q)
 have hnl:=JH (twL l) q
 have hw1:=fun h=>Pd (twL l) (nth (twL l) q) h b
 have hw2:=PR (twL l) (nth (twL l) q) hnl q b
 have hwr:wrL l q b=if jX (twL l) q (nth (twL l) q) then (twL l).set (nth (twL l) q) (newS q b) else (twL l).take (nth (twL l) q)++newS q b :: (twL l).drop (nth (twL l) q):=by
  unfold wrL
  rw[R8,R9]
 rw[hwr]
 have hlt:=fun h=>TE (l:=twL l) (q:=q) (n:=nth (twL l) q) h
 generalize nth (twL l) q=N at *
 generalize twA x l=y at *
 generalize twL l=L at *
 simp[hd,hq]at hA
 have hst : -1≤lf∧lf<2147483648:=by
  unfold dOk dhOk at hd
  simp at hd
  omega
 have ew:=IntWalk.i64_in (lf - 1) (by omega)
 simp only[dsk]at hA hT hft ⊢
 clear hok hd hq hwr hasc
 have hf0:limf env 111 [.agg [.isl 2 (encS L) none,aI st,aI (if lf>0 then lf - 1 else lf),aB false],aI q]=some (.tup [aI N,aB (jX L q N)]):=hft _ _ _ _ (Sl.mk _ _)
 by_cases h0:lf>0
 ·have h0':0<lf:=h0
  rw[if_pos h0]at hf0 ⊢
  clear hf0
  rcases ou with ⟨rfl,h3⟩ | rfl | ⟨rfl,h3⟩
  ·have hL:L=[]:=by simpa [encS] using h3
   subst hL
   obtain rfl:N=0:=by simpa using hnl
   have hh:jX [] q 0=false:=rfl
   have hf0:=hft aNil st (lf - 1) false (.inl ⟨rfl,rfl⟩)
   rw[hh]at hf0 ⊢
   clear hw1 hft hlt
   have hout:encS ((([]:List Sec).take 0)++newS q b :: ([]:List Sec).drop 0)=[.agg [aI q,.isl 1 (by8 b) none]]:=rfl
   simp only[Bool.false_eq_true,if_false]
   rw[hout]
   clear hout
   ·simp[af,ah,ad,ae,aa, *,eP,hx.r]
    refine Hs (es:=[]) (n:=0) (v := .agg [aI q,aNil]) (fz:=false) (.inl ⟨rfl,rfl⟩) (by simp) (by rfl) (by simp) (Nat.le_refl 0) (by simp) (by simp(maxDischargeDepth:=12) [aD,ar,Fr.nil,aP,af,ah,ad,ae,aF,aq,aa, *]) fun r' H' k1 k2 k3=>?_
    obtain⟨g1,m1⟩:=k3 ⟨0,3,0,0⟩ ⟨4,[.agg [aNil,aI st,aI (lf - 1),aB false]],false,false⟩ (by simp) (by simp)
    obtain⟨g2,m2⟩:=k3 ⟨0,6,0,0⟩ ⟨4,[.agg [aNil,aI 0,aI 0,aB false]],false,false⟩ (by simp) (by simp)
    have m3:(⟨0,3,0,0⟩:Ref)≠r':=fun e=>m1 e.symm
    have m4:(⟨0,6,0,0⟩:Ref)≠r':=fun e=>m2 e.symm
    have k1':H'.get r'=some ⟨2,[.agg [aI q,aNil]],true,false⟩:=k1
    clear k3 k1
    simp[*,Heap.aj]
  ·cases hh:jX L q N
   ·have hf0:=hft _ st (lf - 1) false (Sl.mk _ _)
    rw[hh]at hf0
    clear hw1 hft hlt
    simp[af,ah,ad,ae,aa, *,eP,hx.r]
    refine Hs (es:=encS L) (v := .agg [aI q,aNil]) (fz:=false) (.inr (.inr ⟨_,by simp;rfl,by simp⟩)) (by simp) (by rfl) (by simp) (by simpa using hnl) (by simp;omega) (by simp(maxDischargeDepth:=12) [aD,ar,Fr.nil,aP,af,ah,ad,ae,aF,aq,aa, *]) fun r' H' k1 k2 k3=>?_
    obtain⟨g1,m1⟩:=k3 ⟨0,3,0,0⟩ ⟨4,[.agg [.osl ⟨0,23,0,0⟩ 0 L.length none,aI st,aI (lf - 1),aB false]],false,false⟩ (by simp) (by simp)
    obtain⟨g2,m2⟩:=k3 ⟨0,6,0,0⟩ ⟨4,[.agg [aNil,aI 0,aI 0,aB false]],false,false⟩ (by simp) (by simp)
    have m3:(⟨0,3,0,0⟩:Ref)≠r':=fun e=>m1 e.symm
    have m4:(⟨0,6,0,0⟩:Ref)≠r':=fun e=>m2 e.symm
    have hin:(kC (encS L) N (.agg [aI q,aNil])).length=L.length+1:=by rw[Dd _ _ _ (by simpa using hnl)];simp
    have hout:(encS (L.take N++newS q b :: L.drop N)).length=L.length+1:=by simp;omega
    have hN:N<L.length+1:=by omega
    clear k3
    generalize kC (encS L) N (.agg [aI q,aNil])=W at *
    generalize encS (L.take N++newS q b :: L.drop N)=W2 at *
    simp[*,Heap.aj]
    omega
   ·have hf0:=hft _ st (lf - 1) false (Sl.mk _ _)
    obtain⟨h1,h2⟩:=hlt hh
    rw[hh]at hf0
    have hw:=hw1 h1
    rw[h2]at hw
    clear hw1 hft hlt
    rw[if_pos rfl]
    have hout:(encS (L.set N (newS q b))).length=L.length:=by simp
    generalize encS (L.set N (newS q b))=W2 at *
    simp[af,ah,ad,ae,aa, *,eP,hx.r]
  ·have hL:L=[]:=by simpa [encS] using h3
   subst hL
   obtain rfl:N=0:=by simpa using hnl
   have hh:jX [] q 0=false:=rfl
   have hf0:=hft (.isl 2 [] (some 0)) st (lf - 1) false (.inr ⟨some 0,rfl,by simp⟩)
   rw[hh]at hf0 ⊢
   clear hw1 hft hlt
   have hout:encS ((([]:List Sec).take 0)++newS q b :: ([]:List Sec).drop 0)=[.agg [aI q,.isl 1 (by8 b) none]]:=rfl
   simp only[Bool.false_eq_true,if_false]
   rw[hout]
   clear hout
   ·simp[af,ah,ad,ae,aa, *,eP,hx.r]
    refine Hs (es:=[]) (n:=0) (v := .agg [aI q,aNil]) (fz:=false) (.inr (.inl ⟨_,by simp;rfl,rfl,by simp⟩)) (by simp) (by rfl) (by simp) (Nat.le_refl 0) (by simp) (by simp(maxDischargeDepth:=12) [aD,ar,Fr.nil,aP,af,ah,ad,ae,aF,aq,aa, *]) fun r' H' k1 k2 k3=>?_
    obtain⟨g1,m1⟩:=k3 ⟨0,3,0,0⟩ ⟨4,[.agg [.osl ⟨0,23,0,0⟩ 0 0 (some 0),aI st,aI (lf - 1),aB false]],false,false⟩ (by simp) (by simp)
    obtain⟨g2,m2⟩:=k3 ⟨0,6,0,0⟩ ⟨4,[.agg [aNil,aI 0,aI 0,aB false]],false,false⟩ (by simp) (by simp)
    have m3:(⟨0,3,0,0⟩:Ref)≠r':=fun e=>m1 e.symm
    have m4:(⟨0,6,0,0⟩:Ref)≠r':=fun e=>m2 e.symm
    have k1':H'.get r'=some ⟨2,[.agg [aI q,aNil]],true,false⟩:=k1
    clear k3 k1
    simp[*,Heap.aj]
 ·have h0' : ¬0<lf:=h0
  rw[if_neg h0]at hf0 ⊢
  clear hf0 ew
  rcases ou with ⟨rfl,h3⟩ | rfl | ⟨rfl,h3⟩
  ·have hL:L=[]:=by simpa [encS] using h3
   subst hL
   obtain rfl:N=0:=by simpa using hnl
   have hh:jX [] q 0=false:=rfl
   have hf0:=hft aNil st lf false (.inl ⟨rfl,rfl⟩)
   rw[hh]at hf0 ⊢
   clear hw1 hft hlt
   have hout:encS ((([]:List Sec).take 0)++newS q b :: ([]:List Sec).drop 0)=[.agg [aI q,.isl 1 (by8 b) none]]:=rfl
   simp only[Bool.false_eq_true,if_false]
   rw[hout]
   clear hout
   ·simp[af,ah,ad,ae,aa, *,eP,hx.r]
    refine Hs (es:=[]) (n:=0) (v := .agg [aI q,aNil]) (fz:=false) (.inl ⟨rfl,rfl⟩) (by simp) (by rfl) (by simp) (Nat.le_refl 0) (by simp) (by simp(maxDischargeDepth:=12) [aD,ar,Fr.nil,aP,af,ah,ad,ae,aF,aq,aa, *]) fun r' H' k1 k2 k3=>?_
    obtain⟨g1,m1⟩:=k3 ⟨0,3,0,0⟩ ⟨4,[.agg [aNil,aI st,aI lf,aB false]],false,false⟩ (by simp) (by simp)
    obtain⟨g2,m2⟩:=k3 ⟨0,6,0,0⟩ ⟨4,[.agg [aNil,aI 0,aI 0,aB false]],false,false⟩ (by simp) (by simp)
    have m3:(⟨0,3,0,0⟩:Ref)≠r':=fun e=>m1 e.symm
    have m4:(⟨0,6,0,0⟩:Ref)≠r':=fun e=>m2 e.symm
    have k1':H'.get r'=some ⟨2,[.agg [aI q,aNil]],true,false⟩:=k1
    clear k3 k1
    simp[*,Heap.aj]
  ·cases hh:jX L q N
   ·have hf0:=hft _ st lf false (Sl.mk _ _)
    rw[hh]at hf0
    clear hw1 hft hlt
    simp[af,ah,ad,ae,aa, *,eP,hx.r]
    refine Hs (es:=encS L) (v := .agg [aI q,aNil]) (fz:=false) (.inr (.inr ⟨_,by simp;rfl,by simp⟩)) (by simp) (by rfl) (by simp) (by simpa using hnl) (by simp;omega) (by simp(maxDischargeDepth:=12) [aD,ar,Fr.nil,aP,af,ah,ad,ae,aF,aq,aa, *]) fun r' H' k1 k2 k3=>?_
    obtain⟨g1,m1⟩:=k3 ⟨0,3,0,0⟩ ⟨4,[.agg [.osl ⟨0,23,0,0⟩ 0 L.length none,aI st,aI lf,aB false]],false,false⟩ (by simp) (by simp)
    obtain⟨g2,m2⟩:=k3 ⟨0,6,0,0⟩ ⟨4,[.agg [aNil,aI 0,aI 0,aB false]],false,false⟩ (by simp) (by simp)
    have m3:(⟨0,3,0,0⟩:Ref)≠r':=fun e=>m1 e.symm
    have m4:(⟨0,6,0,0⟩:Ref)≠r':=fun e=>m2 e.symm
    have hin:(kC (encS L) N (.agg [aI q,aNil])).length=L.length+1:=by rw[Dd _ _ _ (by simpa using hnl)];simp
    have hout:(encS (L.take N++newS q b :: L.drop N)).length=L.length+1:=by simp;omega
    have hN:N<L.length+1:=by omega
    clear k3
    generalize kC (encS L) N (.agg [aI q,aNil])=W at *
    generalize encS (L.take N++newS q b :: L.drop N)=W2 at *
    simp[*,Heap.aj]
    omega
   ·have hf0:=hft _ st lf false (Sl.mk _ _)
    obtain⟨h1,h2⟩:=hlt hh
    rw[hh]at hf0
    have hw:=hw1 h1
    rw[h2]at hw
    clear hw1 hft hlt
    rw[if_pos rfl]
    have hout:(encS (L.set N (newS q b))).length=L.length:=by simp
    generalize encS (L.set N (newS q b))=W2 at *
    simp[af,ah,ad,ae,aa, *,eP,hx.r]
  ·have hL:L=[]:=by simpa [encS] using h3
   subst hL
   obtain rfl:N=0:=by simpa using hnl
   have hh:jX [] q 0=false:=rfl
   have hf0:=hft (.isl 2 [] (some 0)) st lf false (.inr ⟨some 0,rfl,by simp⟩)
   rw[hh]at hf0 ⊢
   clear hw1 hft hlt
   have hout:encS ((([]:List Sec).take 0)++newS q b :: ([]:List Sec).drop 0)=[.agg [aI q,.isl 1 (by8 b) none]]:=rfl
   simp only[Bool.false_eq_true,if_false]
   rw[hout]
   clear hout
   ·simp[af,ah,ad,ae,aa, *,eP,hx.r]
    refine Hs (es:=[]) (n:=0) (v := .agg [aI q,aNil]) (fz:=false) (.inr (.inl ⟨_,by simp;rfl,rfl,by simp⟩)) (by simp) (by rfl) (by simp) (Nat.le_refl 0) (by simp) (by simp(maxDischargeDepth:=12) [aD,ar,Fr.nil,aP,af,ah,ad,ae,aF,aq,aa, *]) fun r' H' k1 k2 k3=>?_
    obtain⟨g1,m1⟩:=k3 ⟨0,3,0,0⟩ ⟨4,[.agg [.osl ⟨0,23,0,0⟩ 0 0 (some 0),aI st,aI lf,aB false]],false,false⟩ (by simp) (by simp)
    obtain⟨g2,m2⟩:=k3 ⟨0,6,0,0⟩ ⟨4,[.agg [aNil,aI 0,aI 0,aB false]],false,false⟩ (by simp) (by simp)
    have m3:(⟨0,3,0,0⟩:Ref)≠r':=fun e=>m1 e.symm
    have m4:(⟨0,6,0,0⟩:Ref)≠r':=fun e=>m2 e.symm
    have k1':H'.get r'=some ⟨2,[.agg [aI q,aNil]],true,false⟩:=k1
    clear k3 k1
    simp[*,Heap.aj]
end
end Go.Proofs.YtiidajnodhkidaaGreat
