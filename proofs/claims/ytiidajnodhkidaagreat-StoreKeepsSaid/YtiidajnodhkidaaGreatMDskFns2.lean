/-
  Disks: a sector put in. No statement of a seat is proved here.
-/
import Derived.Test.YtiidajnodhkidaaGreatDskFns
import Derived.Test.YtiidajnodhkidaaGreatStVc2
set_option linter.unusedVariables false
set_option linter.unusedSimpArgs false
set_option linter.unusedSectionVars false
set_option linter.unnecessarySimpa false
set_option maxRecDepth 100000
namespace Go.Proofs.YtiidajnodhkidaaGreat
open Go.Ab
attribute [local simp] ct bK bO bN keep thr cC bD bP eE eD cN cB aV dk List.take_of_length_le
theorem HP{f:FuncId}(hm:(env.mode f == 2)=true)(dep:Nat)(H:Heap)(r:Ref)(first args captured:List AV) :
 cl env true (limf env) (limt env dep) H r (some (.fn (.func f) first captured)) args=limt env dep (.fn f) (first++args++captured) H:=by
 have h:env.mode f=2:=by simpa using hm
 simp[cl,kj,mc,nRes,orW,h]
theorem JQ{dep:Nat}{f:FuncId}{args:List AV}{H:Heap}{z:AV × Heap}(h:env.thrSpec f args H=some z):limt env dep (.fn f) args H=some z :=
 pA.2 ⟨0,fun m _=>by unfold eU;simp only[h]⟩
def RowS(es:List AV)(H:Heap)(s:AV):Prop:=(s=aNil∧es=[])∨(∃r,s = .osl r 0 0 (some 0)∧es=[]∧H.get r=some ⟨2,[],true,false⟩) ∨∃r,s = .osl r 0 es.length none∧H.get r=some ⟨2,es,true,false⟩
theorem Kn{H:Heap}(hF:Fr H){d t:Nat}:H.get ⟨d,t,H.gen d t,0⟩=none:=hF d t _ 0 (Nat.le_refl _)
theorem LI{es:List AV}{H:Heap}{s v:AV}{n:Nat}{rv:Ref}{cv:Option Nat}{fz:Bool}(hs:RowS es H s)(hv:H.get rv=some ⟨2,[v],true,fz⟩)(hc:(cv.getD 1)=1)(hsv:s.at?≠some rv)(hn:n≤es.length)(hl:es.length<1000000)(hF:Fr H)(dep:Nat) :
 ∃r' H',limt env dep (.fn 112) [s,aI n,.osl rv 0 1 cv] H=some (.osl r' 0 (es.length+1) none,H')∧H'.get r'=some ⟨2,kC es n v,true,false⟩∧Fr H' ∧
  ∀q b,H.get q=some b→s.at?≠some q→H'.get q=some b∧r'≠q:=by
 by_cases hlt:n<es.length
 ·rcases hs with ⟨rfl,rfl⟩ | ⟨r,rfl,rfl,hr⟩ | ⟨r,rfl,hr⟩
  ·exact absurd hlt (by simp)
  ·exact absurd hlt (by simp)
  ·have hne:r≠rv:=by
    intro e
    rw[e]at hsv
    exact hsv rfl
   have hbig:(es.length+1) * 32≤cN:=by unfold cN;omega
   have hsp:qQ Tryz.prog 22 40 [.osl r 0 es.length none,aI n,.osl rv 0 1 cv] H=some (.osl ⟨r.d,r.t,H.gen r.d r.t,0⟩ 0 (es.length+1) none,insH 40 H r ⟨2,kC es n v,true,false⟩):=by
    have h1:(eA Tryz.prog 22).bind (bm Tryz.prog)=some 2:=by kernel_rfl
    have h2:(eA Tryz.prog 22).bind (kr Tryz.prog)=some 32:=by kernel_rfl
    simp only[qQ,hr,hv,h1,h2]
    rw[if_pos (by refine⟨?_,?_,?_,?_,?_,?_,?_,?_,?_,?_,?_,?_⟩<;>first | trivial | exact hne | exact hbig | omega | rfl | decide)]
    rfl
   have hX:H.get (insX 40 H r)=none:=Kn hF
   refine⟨_,_,JQ hsp,?_,?_,?_⟩
   ·rw[wR 40 _ hX,if_pos rfl]
   ·unfold insH insX
    have hg : ∀d t,(H.put r none).gen d t=H.gen d t:=fun d t=>Heap.iF H r none (by rw[hr];rfl) d t
    refine aD (aD (aP hF (by rw[hr];rfl) _) (hg _ _).symm _) ?_ _
    rw[Heap.pD,if_neg (fun h=>by have:=h.1;omega),hg]
   ·intro q b hq hsq
    have hqr:q≠r:=by rintro rfl;exact hsq rfl
    have hn':(⟨r.d,r.t,H.gen r.d r.t,0⟩:Ref)≠q:=by
     intro e
     rw[←e,Kn hF]at hq
     cases hq
    exact⟨by rw[wR 40 q hX,if_neg hn',if_neg hqr];exact hq,hn'⟩
 ·obtain rfl:n=es.length:=by omega
  have hins:kC es es.length v=es++[v]:=by simp[kC]
  rw[hins]
  clear hn hlt hins
  have hels:Els H.get 2 [v] (.osl rv 0 1 cv) := .inr ⟨rfl,by simp,by simp[dq,hv]⟩
  have own:Own 2 es H s →∀dep,∃r' H',cE env.P true H ⟨dep+1,25,H.gen (dep+1) 25,0⟩ (some 22) (some 22) s (.osl rv 0 1 cv)=some (.osl r' 0 (es.length+1) none,H')∧H'.get r'=some ⟨2,es++[v],true,false⟩∧Fr H' ∧
   ∀q b,H.get q=some b→s.at?≠some q→H'.get q=some b∧r'≠q:=by
   intro ho dep
   have h:=Gv (P:=env.P) (t:=22) (t':=22) (z:=2) (by':=32) (by kernel_rfl) (by kernel_rfl) H (dep+1) 25 ho hels (by simp[cN];omega) hF
   obtain⟨s',H',a1,a2,a3,a4⟩:=h
   rcases a2 with ⟨_,h0⟩ | ⟨r',rfl,a2⟩
   ·simp at h0
   ·refine⟨r',H',?_,a2,a3,fun q b h1 h2=>⟨(a4 q b h1 h2).1,?_⟩⟩
    ·rw[a1];simp
    ·have:=(a4 q b h1 h2).2
     rintro rfl
     exact this rfl
  have key : ∀dep,∃r' H',cE env.P true H ⟨dep+1,25,H.gen (dep+1) 25,0⟩ (some 22) (some 22) s (.osl rv 0 1 cv)=some (.osl r' 0 (es.length+1) none,H')∧H'.get r'=some ⟨2,es++[v],true,false⟩∧Fr H' ∧
   ∀q b,H.get q=some b→s.at?≠some q→H'.get q=some b∧r'≠q:=by
   intro dep
   rcases hs with ⟨rfl,rfl⟩ | ⟨r,rfl,rfl,hr⟩ | ⟨r,rfl,hr⟩
   ·exact own (.inl ⟨rfl,rfl⟩) dep
   ·have e2:elZ env.P 22=2:=by kernel_rfl
    have e3:elBy env.P 22=32:=by kernel_rfl
    have h:=yv (P:=env.P) (t:=22) (t':=22) (by kernel_rfl) (by kernel_rfl) true H ⟨dep+1,25,H.gen (dep+1) 25,0⟩ r 0 0 (.osl rv 0 1 cv) (es:=[]) (new:=[v]) (fz:=false) (by rw[e2];exact hr) (by rw[e2];simp[hv,elsB]) rfl (.inr ⟨by rw[e3];simp[cN],by simp⟩)
    rw[e2,if_neg (by simp)]at h
    refine⟨_,_,h,?_,?_,?_⟩
    ·rw[Heap.gV,if_pos rfl]
    ·exact aD hF rfl _
    ·intro q b hq _
     have hn':(⟨dep+1,25,H.gen (dep+1) 25,0⟩:Ref)≠q:=by
      intro e
      rw[←e,Kn hF]at hq
      cases hq
     exact⟨by rw[Heap.gV,if_neg hn'];exact hq,hn'⟩
   ·exact own (.inr ⟨r,rfl,hr⟩) dep
  obtain⟨r',H',k1,k2,k3,k4⟩:=key dep
  obtain⟨y,H2,h1,e1,e2⟩ : ∃y H2,limt env dep (.fn 112) [s,aI es.length,.osl rv 0 1 cv] H=some (y,H2)∧y = .osl r' 0 (es.length+1) none∧H2=H':=by
   refine rD (fn:=Tryz.f112) (c:=cX) (by kernel_rfl) (by kernel_rfl) (by kernel_rfl) (by kernel_rfl) (by kernel_rfl) ?_ ?_
   ·refine eJ _ _ _ _ _ _ fun g=>?_
    rcases hs with ⟨rfl,rfl⟩ | ⟨r,rfl,rfl,hr⟩ | ⟨r,rfl,hr⟩
    ·simp[af,ah,ad,ae,aa, *,bp,k1]
     done
    ·simp[af,ah,ad,ae,aa, *,bp,k1]
     done
    ·simp[af,ah,ad,ae,aa, *,bp,k1]
     done
   ·cases h:env.thrSpec 112 [s,aI es.length,.osl rv 0 1 cv] H with
    | none=>rfl
    | some w =>
     exfalso
     have h':qQ Tryz.prog 22 40 [s,aI es.length,.osl rv 0 1 cv] H=some (w.1,w.2):=h
     obtain⟨r,n,i,rv',cv',b,bv,v',z',by',he,hok,_⟩:=vG h'
     simp only[List.cons.injEq,AV.v.injEq,Value.int.injEq]at he
     obtain⟨rfl,⟨_,rfl⟩,_⟩:=he
     unfold J6 at hok
     rcases hs with ⟨e,_⟩ | ⟨q,e,_⟩ | ⟨q,e,_⟩
     ·cases e
     ·cases e
     ·injection e with e1 e2 e3 e4
      omega
  exact⟨r',H',by rw[h1,e1,e2],k2,k3,k4⟩
end Go.Proofs.YtiidajnodhkidaaGreat
namespace Go.Proofs.YtiidajnodhkidaaGreat
open Go.Ab
attribute [local simp] ct bK bO bN keep thr cC bD bP eE eD cN cB aV dk List.take_of_length_le
theorem Ue : ∀(l:List Sec)(a:Int),ascS a l=true →∀s∈l,a<s.pos:=by
 intro l
 induction l with
 | nil=>intro a h s hs;cases hs
 | cons p l ih =>
  intro a h s hs
  simp[ascS]at h
  rcases List.mem_cons.1 hs with rfl | hs
  ·exact h.1.1.1
  ·have:=ih _ h.2 s hs;have:=h.1.1.1;omega
theorem JH(l:List Sec)(q:Int):nth l q≤l.length:=by
 unfold nth
 exact(List.takeWhile_sublist _).length_le
theorem F2(q:Int) : ∀(l:List Sec)(a:Int),ascS a l=true →∀k (h:k<l.length),(l[k].pos<q↔k<nth l q):=by
 intro l
 induction l with
 | nil=>intro a h k hk;exact absurd hk (by simp)
 | cons p l ih =>
  intro a h k hk
  have ha:=Ue l p.pos (by simp[ascS]at h;exact h.2)
  have hs:ascS p.pos l=true:=by simp[ascS]at h;exact h.2
  unfold nth
  by_cases hp:p.pos<q
  ·rw[List.takeWhile_cons_of_pos (by simpa using hp),List.length_cons]
   cases k with
   | zero=>simp[hp]
   | succ k =>
    have hk':k<l.length:=by simpa using hk
    have:=ih p.pos hs k hk'
    unfold nth at this
    simp only[List.getElem_cons_succ]
    rw[this]
    omega
  ·rw[List.takeWhile_cons_of_neg (by simpa using hp)]
   cases k with
   | zero=>simp[hp]
   | succ k =>
    have hk':k<l.length:=by simpa using hk
    have:=ha l[k] (List.getElem_mem _)
    simp only[List.getElem_cons_succ,List.length_nil]
    omega
theorem vi{l:List Sec}{st lf:Int}{dd:Bool}(h:dOk l st lf dd=true):ascS (-1) l=true:=by
 unfold dOk at h
 simp at h
 exact h.1
def rdB(l:List Sec)(q:Int):List UInt8:=if jX l q (nth l q) then ((l[nth l q]?).map (·.bs)).getD [] else List.replicate 128 0
section
variable{l:List Sec}{x:AV}{st lf:Int}{dd:Bool}(hx:Sl 2 (encS l) x)(hok : ∀s∈l,oL s)(hl:l.length<1000000)
include hx hok hl
theorem Sx{q:Int}:limf env 116 [dsk x st lf dd,aI q]=some (
 if dOk l st lf dd then (if 0≤q∧q<6146 then .tup [.isl 1 (by8 (rdB l q)) none,aI 0] else .tup [aNil,aI 2]) else .tup [aNil,aI 8]):=by
 refine aH (fn:=Tryz.f116) (c:=vU) rfl (by kernel_rfl) (by kernel_rfl) (by kernel_rfl) (by kernel_rfl) ?_;refine Cu _ _ _ _ fun g=>?_
 have hA:=Ef (st:=st) (lf:=lf) (dd:=dd) hx hok (by omega) (q:=q)
 cases hd:dOk l st lf dd
 ·simp[hd]at hA
  simp only[dsk]at hA ⊢
  simp[af,ah,ad,ae,aa, *,lW,hx.r]
 ·simp[hd]at hA
  by_cases hq:0≤q∧q<6146
  ·rw[if_pos hq]at hA
   have hf:=Nx (st:=st) (lf:=lf) (dd:=dd) hx hok hl (F2 q l (-1) (vi hd)) (JH l q)
   cases hh:jX l q (nth l q)
   ·obtain⟨Z,hZ⟩ : ∃Z:List UInt8,Z=List.replicate 128 0:=⟨_,rfl⟩
    have hZl:Z.length=128:=by rw[hZ];rfl
    have e1:rdB l q=Z:=by unfold rdB;rw[hh,hZ];rfl
    rw[hh]at hf
    simp only[dsk,e1]at hA hf ⊢
    rw[if_pos hq]
    have hmk:=wN (P:=env.P) (t:=76) (z:=1) (by':=1) (zz:=a8 0) (r:=⟨0,23,0,0⟩) (by kernel_rfl) (by kernel_rfl) (n:=128) (by decide) (by decide)
    rw[show List.replicate 128 (a8 0)=by8 Z from by rw[hZ];rfl,show((128:Nat):Int)=128 from rfl]at hmk
    clear hZ
    simp[af,ah,ad,ae,aa, *,lW,hx.r]
   ·have hlt:nth l q<l.length:=by
     unfold jX at hh
     cases h:l[nth l q]? with
     | none=>rw[h]at hh;cases hh
     | some s=>exact(List.getElem?_eq_some_iff.1 h).1
    obtain⟨p,hp⟩ : ∃p,p=l[nth l q]:=⟨_,rfl⟩
    have hpo:=hok p (by rw[hp];exact List.getElem_mem _)
    have e1:rdB l q=p.bs:=by simp[rdB,hh,hlt,hp]
    have ho:=OT hpo (tg l (-1) (vi hd) p (by rw[hp];exact List.getElem_mem _))
    have hpr:=hpo.r
    rw[hh]at hf
    simp only[dsk,e1]at hA hf ⊢
    rw[if_pos hq]
    have hrd:ee (encS l) (nth l q) 1 1 false=some p.av:=by simp[encS,hlt,Sec.enc,hp]
    clear hok
    subst hp
    simp[af,ah,ad,ae,aa, *,lW,hx.r,hx.idx]
  ·rw[if_neg hq]at hA
   simp only[dsk]at hA ⊢
   rw[if_neg hq]
   simp[af,ah,ad,ae,aa, *,lW,hx.r]
end
end Go.Proofs.YtiidajnodhkidaaGreat
