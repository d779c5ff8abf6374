/-
  Chains: lists checked, what is shown. No statement of a seat is proved here.
-/
import Derived.Test.YtmkmimgokagimaaGreatChFns
set_option linter.unusedVariables false
set_option linter.unusedSimpArgs false
set_option linter.unusedSectionVars false
set_option linter.unnecessarySimpa false
set_option maxRecDepth 100000
namespace Go.Proofs.YtmkmimgokagimaaGreat
open Go.Ab
attribute [local simp] bJ bw bt bG bF cL kN bX bx bD cR cQ cr bY bh ct List.take_of_length_le
theorem Uo(out:List jS):Sl 2 (Ad out) (.ck 2 (Ad out) (Pn out)):=by
 refine .inr ⟨_,rfl,?_⟩
 unfold Pn
 split
 ·rename_i h;simp[h]
 ·simp
def qF(l:List bz)(o:bz):Nat→Nat→Bool
 | 0,_=>true
 | n+1,k=>decide (Lt o∈xV l ⟨o.s.f.h,o.s.f.n+(k:Int)⟩ (Lt o))&&qF l o n (k+1)
theorem OR(l:List bz)(i:eJ)(v:jS):(xV l i v).length≤1+l.length:=OS l i v [UL i]
theorem O9{l:List (bz × AV)}{x0:AV}(hx:Sl 17 (ff l) x0)(hall : ∀p∈l,L8 p)(hl:l.length<100000)(ba:UInt8)(aO:UInt8)(aN:UInt32)(aT:UInt8)(aV:Int)(aX:UInt8)(aW:UInt32)(aY:UInt8)(aZ:Int)(an:Int)(ay:UInt8)(ax:UInt32)(aw:UInt8)(au:Int)(aA:UInt8)(az:UInt32){al:List Int}{x:AV}(hax:Sl 1 (rows al) x)(hs:jz ⟨⟨⟨aX,aW,aY⟩,aZ⟩,an⟩=true){Q:AV→ad→Prop}{r3:Ref} :
 ∀(n k:Nat)(i:Int)(right:Bool)(H:ad),(k:Int)+n=an→i=k→Fr H→H.get r3=some ⟨17,[.agg [a8 ba,a8 aO,aF aN,a8 aT,aI aV,a8 aX,aF aW,a8 aY,aI aZ,aI an,a8 ay,aF ax,a8 aw,aI au,a8 aA,aF az,x]],false,false⟩→(k=0∨right=true) →
 (∀y H',y=aB (right&&qF (opsOf l) (⟨ba,⟨aO,aN,aT⟩,aV,⟨⟨⟨aX,aW,aY⟩,aZ⟩,an⟩,⟨⟨ay,ax,aw⟩,au⟩,⟨aA,az⟩,al⟩:bz) n k)→Q y H') →
 b7 env Tryz.f244 0 nK [(21,aI i),(3,.ptr r3 0 0),(0,x0),(5,aB right),(20,aI an)] H Q:=by
 have hn:=kV hs
 simp only at hn
 intro n
 induction n with
 | zero =>
  rintro k i right H hk rfl hF hB hr hQ
  refine wU _ _ _ _ _ _ _ fun g=>?_
  have hk' : ¬(k:Int)<an:=by omega
  simp[ah,ai,ae,af,ab, *,lN]
  all_goals exact hQ _ _ (by simp[qF])
 | succ n ih =>
  rintro k i right H hk rfl hF hB hr hQ
  refine wU _ _ _ _ _ _ _ fun g=>?_
  have hk':(k:Int)<an:=by omega
  have e3:=IntWalk.i64_in ((k:Int)+1) (by omega)
  have eA:So ⟨⟨⟨aX,aW,aY⟩,aZ⟩,an⟩ (k:Int)=0:=by
   unfold So
   rw[if_pos hs,if_neg]
   simp only
   omega
  have h1:=VI hx hall hl aX aW aY (aZ+k) (by omega) (by omega) aO aN
  have ml:=OR (opsOf l) ⟨⟨aX,aW,aY⟩,aZ+k⟩ ⟨aO,aN⟩
  have h2:=xN (Uo (xV (opsOf l) ⟨⟨aX,aW,aY⟩,aZ+k⟩ ⟨aO,aN⟩)) (by rw[show(opsOf l).length=l.length from List.length_map _]at ml;omega) aO aN
  have hf:qF (opsOf l) (⟨ba,⟨aO,aN,aT⟩,aV,⟨⟨⟨aX,aW,aY⟩,aZ⟩,an⟩,⟨⟨ay,ax,aw⟩,au⟩,⟨aA,az⟩,al⟩:bz) (n+1) k=(decide ((⟨aO,aN⟩:jS)∈xV (opsOf l) ⟨⟨aX,aW,aY⟩,aZ+k⟩ ⟨aO,aN⟩)&&qF (opsOf l) (⟨ba,⟨aO,aN,aT⟩,aV,⟨⟨⟨aX,aW,aY⟩,aZ⟩,an⟩,⟨⟨ay,ax,aw⟩,au⟩,⟨aA,az⟩,al⟩:bz) n (k+1)):=rfl
  rw[hf]at hQ
  clear hf hn
  cases right with
  | false =>
   simp[ah,ai,ae,af,ab, *,lN,hx.r,hax.r]
   all_goals exact hQ _ _ (by simp)
  | true =>
   by_cases hm:(⟨aO,aN⟩:jS)∈xV (opsOf l) ⟨⟨aX,aW,aY⟩,aZ+k⟩ ⟨aO,aN⟩
   ·simp[ah,ai,ae,af,ab, *,lN,hx.r,hax.r]
    exact ih (k+1) _ true _ (by omega) (by simp) (by simp(maxDischargeDepth:=12) [aD,aq,Fr.nil,aJ,ah,ai,ae,af,aC,ar,ab, *]) (by simp(maxDischargeDepth:=12) [aD,aq,Fr.nil,aJ,ah,ai,ae,af,aC,ar,ab, *]) (.inr rfl) (fun y H' e=>hQ y H' (by rw[e];simp[hm]))
   ·simp[ah,ai,ae,af,ab, *,lN,hx.r,hax.r]
    all_goals exact hQ _ _ (by simp[hm])
theorem Rv(l:List bz)(o:bz)(h3:o.kind=3):nC l o=(nd (Lt o) o.to&&qF l o o.s.many.toNat 0):=by
 unfold nC
 rw[if_pos h3]
 congr 1
 have key : ∀n k,qF l o n k=(List.range n).all (fun j=>decide (Lt o∈xV l ⟨o.s.f.h,o.s.f.n+((k+j:Nat):Int)⟩ (Lt o))):=by
  intro n
  induction n with
  | zero=>intro k;rfl
  | succ n ih =>
   intro k
   rw[qF,ih,List.range_succ_eq_map,List.all_cons,List.all_map]
   congr 1
   congr 1
   funext j
   simp only[Function.comp,Nat.succ_eq_add_one]
   rw[show k+1+j=k+(j+1) by omega]
 rw[key]
 simp
theorem Qa{l:List (bz × AV)}{x0:AV}(hx:Sl 17 (ff l) x0)(hall : ∀p∈l,L8 p)(hl:l.length<100000)(ba:UInt8)(aO:UInt8)(aN:UInt32)(aT:UInt8)(aV:Int)(aX:UInt8)(aW:UInt32)(aY:UInt8)(aZ:Int)(an:Int)(ay:UInt8)(ax:UInt32)(aw:UInt8)(au:Int)(aA:UInt8)(az:UInt32){al:List Int}{x:AV}(hax:Sl 1 (rows al) x)(hs:jz ⟨⟨⟨aX,aW,aY⟩,aZ⟩,an⟩=true) :
 bj env 244 [x0,.agg [a8 ba,a8 aO,aF aN,a8 aT,aI aV,a8 aX,aF aW,a8 aY,aI aZ,aI an,a8 ay,aF ax,a8 aw,aI au,a8 aA,aF az,x]]=some (aB (nC (opsOf l) (⟨ba,⟨aO,aN,aT⟩,aV,⟨⟨⟨aX,aW,aY⟩,aZ⟩,an⟩,⟨⟨ay,ax,aw⟩,au⟩,⟨aA,az⟩,al⟩:bz))):=by
 refine aG (fn:=Tryz.f244) (c:=uT) rfl (by kernel_rfl) (by kernel_rfl) (by kernel_rfl) (by kernel_rfl) ?_;refine GA _ _ _ _ fun g=>?_
 by_cases h3:ba=3
 ·subst h3
  rw[Rv _ _ rfl]
  have hn:=kV hs
  simp only at hn
  simp[ah,ai,ae,af,ab, *,uW,hx.r,hax.r]
  exact O9 hx hall hl 3 aO aN aT aV aX aW aY aZ an ay ax aw au aA az hax hs an.toNat 0 _ _ _ (by omega) rfl (by simp(maxDischargeDepth:=12) [aD,aq,Fr.nil,aJ,ah,ai,ae,af,aC,ar,ab, *]) (by simp) (.inl rfl) (fun y H' e=>by rw[e];simp[Lt])
 ·have e:nC (opsOf l) (⟨ba,⟨aO,aN,aT⟩,aV,⟨⟨⟨aX,aW,aY⟩,aZ⟩,an⟩,⟨⟨ay,ax,aw⟩,au⟩,⟨aA,az⟩,al⟩:bz)=true:=by unfold nC;rw[if_neg h3]
  simp[ah,ai,ae,af,ab, *,uW,hax.r]
theorem LV(s t:List bz) : ∀l,kX l (s++t)=(kX l s&&kX (l++s) t):=by
 induction s with
 | nil=>intro l;simp[kX]
 | cons o s ih =>
  intro l
  show(la o&&nC l o&&kX (l++[o]) (s++t))=(la o&&nC l o&&kX (l++[o]) s&&kX (l++o :: s) t)
  rw[ih,List.append_assoc,List.singleton_append]
  simp only[Bool.and_assoc]
theorem qA{o:bz}(h:la o=true):jz o.s=true:=by
 simp only[la,Bool.and_eq_true]at h
 exact h.2.2.2.1
theorem MI{l:List (bz × AV)}{x0:AV}(hx:Sl 17 (ff l) x0)(hall : ∀p∈l,L8 p)(hl:l.length<100000){Q:AV→ad→Prop} :
 ∀(s:List (bz × AV)) (k:Nat) (i:Int) (H:ad),l.drop k=s→k≤l.length→i=k→Fr H →
 (∀y H',y=aI (bad (kX (opsOf (l.take k)) (opsOf s)))→Q y H') →
 b7 env Tryz.f243 0 mN [(10,aI i),(0,x0),(8,x0),(9,aI l.length)] H Q:=by
 intro s
 induction s with
 | nil =>
  rintro k i H hs hk rfl hF hQ
  obtain rfl:=drop_nil hs hk
  refine u6 _ _ _ _ _ _ fun g=>?_
  simp[ah,ai,ae,af,ab, *,kK]
  all_goals exact hQ _ _ rfl
 | cons p s ih =>
  rintro k i H hs hk rfl hF hQ
  obtain⟨hlt,hg,hs',hg'⟩:=drop_cons hs
  have hp:=hall p (by rw[←hg];exact List.getElem_mem _)
  obtain⟨⟨ba,⟨aO,aN,aT⟩,aV,⟨⟨⟨aX,aW,aY⟩,aZ⟩,an⟩,⟨⟨ay,ax,aw⟩,au⟩,⟨aA,az⟩,al⟩,x⟩:=p
  obtain⟨hpx,hpl⟩:=hp
  simp only at hpx hpl
  refine u6 _ _ _ _ _ _ fun g=>?_
  have e3:=IntWalk.i64_in ((k:Int)+1) (by omega)
  have hc:=ko ba aO aN aT aV aX aW aY aZ an ay ax aw au aA az hpx hpl
  have hst:Sl 17 (ff (l.take k)) (.ck 17 (ff (l.take k)) none):=Sl.mk _ _
  obtain⟨c,rfl,hcap⟩:=hx.WD (by intro e;have:=congrArg List.length e;simp at this;subst this;simp at hlt)
  have htk:l.take (k+1)=l.take k++[((⟨ba,⟨aO,aN,aT⟩,aV,⟨⟨⟨aX,aW,aY⟩,aZ⟩,an⟩,⟨⟨ay,ax,aw⟩,au⟩,⟨aA,az⟩,al⟩:bz),x)]:=by rw[List.take_succ_eq_append_getElem hlt,hg]
  have hr:kX (opsOf (l.take k)) (opsOf (((⟨ba,⟨aO,aN,aT⟩,aV,⟨⟨⟨aX,aW,aY⟩,aZ⟩,an⟩,⟨⟨ay,ax,aw⟩,au⟩,⟨aA,az⟩,al⟩:bz),x) :: s))=(la (⟨ba,⟨aO,aN,aT⟩,aV,⟨⟨⟨aX,aW,aY⟩,aZ⟩,an⟩,⟨⟨ay,ax,aw⟩,au⟩,⟨aA,az⟩,al⟩:bz)&&nC (opsOf (l.take k)) (⟨ba,⟨aO,aN,aT⟩,aV,⟨⟨⟨aX,aW,aY⟩,aZ⟩,an⟩,⟨⟨ay,ax,aw⟩,au⟩,⟨aA,az⟩,al⟩:bz)&&kX (opsOf (l.take (k+1))) (opsOf s)):=by
   rw[htk]
   show(_&&kX (opsOf (l.take k)++[_]) (opsOf s))=_
   simp only[opsOf,List.map_append,List.map_cons,List.map_nil]
  rw[hr]at hQ
  have hlen:(l.take k).length<100000:=by rw[List.length_take];omega
  have htl:(ff l).take k=ff (l.take k):=by simp[ff,List.map_take]
  have k1:(k:Int)≤l.length:=by omega
  have k2:(0:Int)≤k:=by omega
  have hrd:eQ (ff l) k 0 17 true=some (.agg [a8 ba,a8 aO,aF aN,a8 aT,aI aV,a8 aX,aF aW,a8 aY,aI aZ,aI an,a8 ay,aF ax,a8 aw,aI au,a8 aA,aF az,x]):=by simp[ff,IW,hg']
  clear hr htk
  cases ho:la (⟨ba,⟨aO,aN,aT⟩,aV,⟨⟨⟨aX,aW,aY⟩,aZ⟩,an⟩,⟨⟨ay,ax,aw⟩,au⟩,⟨aA,az⟩,al⟩:bz) with
  | false =>
   simp[ah,ai,ae,af,ab, *,kK,hx.r,hx.idx,hpx.r]
   all_goals exact hQ _ _ (by simp[ho,bad])
  | true =>
   have hck:k≤c.getD k:=by
    cases c with
    | none=>exact Nat.le_refl _
    | some c=>simp only[Option.getD_some,vE]at hcap ⊢;omega
   have hf : ∀c':Option Nat,k≤c'.getD k→bj env 244 [.ck 17 (ff (l.take k)) c',.agg [a8 ba,a8 aO,aF aN,a8 aT,aI aV,a8 aX,aF aW,a8 aY,aI aZ,aI an,a8 ay,aF ax,a8 aw,aI au,a8 aA,aF az,x]]=some (aB (nC (opsOf (l.take k)) (⟨ba,⟨aO,aN,aT⟩,aV,⟨⟨⟨aX,aW,aY⟩,aZ⟩,an⟩,⟨⟨ay,ax,aw⟩,au⟩,⟨aA,az⟩,al⟩:bz))):=by
    intro c' hc'
    have hkl:(ff (l.take k)).length=k:=by rw[vE,List.length_take];omega
    exact Qa (.inr ⟨c',rfl,by rw[hkl];exact hc'⟩) (fun p hp=>hall p (List.mem_of_mem_take hp)) hlen ba aO aN aT aV aX aW aY aZ an ay ax aw au aA az hpx (qA ho)
   cases hq:nC (opsOf (l.take k)) (⟨ba,⟨aO,aN,aT⟩,aV,⟨⟨⟨aX,aW,aY⟩,aZ⟩,an⟩,⟨⟨ay,ax,aw⟩,au⟩,⟨aA,az⟩,al⟩:bz) with
   | false =>
    simp[ah,ai,ae,af,ab, *,kK,hx.r,hx.idx,hpx.r]
    all_goals exact hQ _ _ (by simp[ho,hq,bad])
   | true =>
    simp[ah,ai,ae,af,ab, *,kK,hx.r,hx.idx,hpx.r]
    exact ih (k+1) _ _ hs' (by omega) (by simp) (by simp(maxDischargeDepth:=12) [aD,aq,Fr.nil,aJ,ah,ai,ae,af,aC,ar,ab, *]) (fun y H' e=>hQ y H' (by rw[e];simp[ho,hq]))
section
variable{l:List (bz × AV)}{x0:AV}(hx:Sl 17 (ff l) x0)(hall : ∀p∈l,L8 p)(hl:l.length<100000)
include hx hall hl
theorem Ol:bj env 243 [x0]=some (aI (pk (opsOf l))):=by
 refine aG (fn:=Tryz.f243) (c:=sD) rfl (by kernel_rfl) (by kernel_rfl) (by kernel_rfl) (by kernel_rfl) ?_;refine EE _ _ _ fun g=>?_
 have hn:=hx.len
 have ho:(opsOf l).length=l.length:=List.length_map _
 by_cases h:2048<l.length
 ·have h':(2048:Int)<l.length:=by omega
  have e:pk (opsOf l)=4:=by unfold pk;rw[if_pos (by rw[ho];exact h)]
  simp[ah,ai,ae,af,ab, *,sM,hx.r]
 ·have h' : ¬(2048:Int)<l.length:=by omega
  have e:pk (opsOf l)=bad (kX [] (opsOf l)):=by unfold pk bad;rw[if_neg (by rw[ho];exact h)]
  simp[ah,ai,ae,af,ab, *,sM,hx.r]
  exact MI hx hall hl l 0 _ _ rfl (by omega) rfl Fr.nil (fun y H' ey=>by rw[ey];simp[opsOf])
theorem Qz(ba:UInt8)(aO:UInt8)(aN:UInt32)(aT:UInt8)(aV:Int)(aX:UInt8)(aW:UInt32)(aY:UInt8)(aZ:Int)(an:Int)(ay:UInt8)(ax:UInt32)(aw:UInt8)(au:Int)(aA:UInt8)(az:UInt32){al:List Int}{x:AV}(hax:Sl 1 (rows al) x)(hal:al.length<2000000):bj env 235 [x0,.agg [a8 ba,a8 aO,aF aN,a8 aT,aI aV,a8 aX,aF aW,a8 aY,aI aZ,aI an,a8 ay,aF ax,a8 aw,aI au,a8 aA,aF az,x]] =
 some (if pk (opsOf l)=0 then (if la (⟨ba,⟨aO,aN,aT⟩,aV,⟨⟨⟨aX,aW,aY⟩,aZ⟩,an⟩,⟨⟨ay,ax,aw⟩,au⟩,⟨aA,az⟩,al⟩:bz) then .tup [aB (nC (opsOf l) (⟨ba,⟨aO,aN,aT⟩,aV,⟨⟨⟨aX,aW,aY⟩,aZ⟩,an⟩,⟨⟨ay,ax,aw⟩,au⟩,⟨aA,az⟩,al⟩:bz)),aI 0] else .tup [aB false,aI 8]) else .tup [aB false,aI (pk (opsOf l))]):=by
 refine aG (fn:=Tryz.f235) (c:=zK) rfl (by kernel_rfl) (by kernel_rfl) (by kernel_rfl) (by kernel_rfl) ?_;refine GB _ _ _ _ fun g=>?_
 have h1:=Ol hx hall hl
 have h2:=ko ba aO aN aT aV aX aW aY aZ an ay ax aw au aA az hax hal
 by_cases h:pk (opsOf l)=0
 ·rw[if_pos h]
  cases ho:la (⟨ba,⟨aO,aN,aT⟩,aV,⟨⟨⟨aX,aW,aY⟩,aZ⟩,an⟩,⟨⟨ay,ax,aw⟩,au⟩,⟨aA,az⟩,al⟩:bz) with
  | false=>simp[ah,ai,ae,af,ab, *,qq,hx.r,hax.r]
  | true =>
   have h3:=Qa hx hall hl ba aO aN aT aV aX aW aY aZ an ay ax aw au aA az hax (qA ho)
   simp[ah,ai,ae,af,ab, *,qq,hx.r,hax.r]
 ·rw[if_neg h]
  simp[ah,ai,ae,af,ab, *,qq,hx.r,hax.r]
end
end Go.Proofs.YtmkmimgokagimaaGreat
