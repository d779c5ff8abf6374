/-
  Chains: lists checked, what is shown. No statement of a seat is proved here.
-/
import Derived.Test.YtdbiffjdomokfaaGreatChFns
set_option linter.unusedVariables false
set_option linter.unusedSimpArgs false
set_option linter.unusedSectionVars false
set_option linter.unnecessarySimpa false
set_option maxRecDepth 100000
namespace Go.Proofs.YtdbiffjdomokfaaGreat
open Go.Ab
attribute [local simp] bD bq bo bF bE cZ ld bQ bx bA dx dw cg bT aY ct List.take_of_length_le
theorem Qx(out:List mL):Sl 2 (wX out) (.cw 2 (wX out) (Lt out)):=by
 refine .inr ⟨_,rfl,?_⟩
 unfold Lt
 split
 ·rename_i h;simp[h]
 ·simp
def o5(l:List bR)(o:bR):Nat→Nat→Bool
 | 0,_=>true
 | n+1,k=>decide (Lu o∈wc l ⟨o.s.f.h,o.s.f.n+(k:Int)⟩ (Lu o))&&o5 l o n (k+1)
theorem K3(l:List bR)(i:fl)(v:mL):(wc l i v).length≤1+l.length:=K4 l i v [ZT i]
theorem Ll{l:List (bR × AV)}{x0:AV}(hx:Sl 17 (eU l) x0)(hall : ∀p∈l,ID p)(hl:l.length<100000)(bh:UInt8)(aQ:UInt8)(aP:UInt32)(aT:UInt8)(aX:Int)(bc:UInt8)(ba:UInt32)(bf:UInt8)(bg:Int)(au:Int)(az:UInt8)(ay:UInt32)(ax:UInt8)(aw:Int)(aC:UInt8)(aA:UInt32){al:List Int}{x:AV}(hax:Sl 1 (rows al) x)(hs:je ⟨⟨⟨bc,ba,bf⟩,bg⟩,au⟩=true){Q:AV→ab→Prop}{r3:Ref} :
 ∀(n k:Nat)(i:Int)(right:Bool)(H:ab),(k:Int)+n=au→i=k→Fr H→H.get r3=some ⟨17,[.agg [a8 bh,a8 aQ,aF aP,a8 aT,aI aX,a8 bc,aF ba,a8 bf,aI bg,aI au,a8 az,aF ay,a8 ax,aI aw,a8 aC,aF aA,x]],false,false⟩→(k=0∨right=true) →
 (∀y H',y=aB (right&&o5 (opsOf l) (⟨bh,⟨aQ,aP,aT⟩,aX,⟨⟨⟨bc,ba,bf⟩,bg⟩,au⟩,⟨⟨az,ay,ax⟩,aw⟩,⟨aC,aA⟩,al⟩:bR) n k)→Q y H') →
 bP env Tryz.f169 0 mG [(21,aI i),(3,.ptr r3 0 0),(0,x0),(5,aB right),(20,aI au)] H Q:=by
 have hn:=lF hs
 simp only at hn
 intro n
 induction n with
 | zero =>
  rintro k i right H hk rfl hF hB hr hQ
  refine tL _ _ _ _ _ _ _ fun g=>?_
  have hk' : ¬(k:Int)<au:=by omega
  simp[ah,ai,ae,af,ad, *,kN]
  all_goals exact hQ _ _ (by simp[o5])
 | succ n ih =>
  rintro k i right H hk rfl hF hB hr hQ
  refine tL _ _ _ _ _ _ _ fun g=>?_
  have hk':(k:Int)<au:=by omega
  have e3:=IntWalk.i64_in ((k:Int)+1) (by omega)
  have eA:OQ ⟨⟨⟨bc,ba,bf⟩,bg⟩,au⟩ (k:Int)=0:=by
   unfold OQ
   rw[if_pos hs,if_neg]
   simp only
   omega
  have h1:=R5 hx hall hl bc ba bf (bg+k) (by omega) (by omega) aQ aP
  have ml:=K3 (opsOf l) ⟨⟨bc,ba,bf⟩,bg+k⟩ ⟨aQ,aP⟩
  have h2:=uC (Qx (wc (opsOf l) ⟨⟨bc,ba,bf⟩,bg+k⟩ ⟨aQ,aP⟩)) (by rw[show(opsOf l).length=l.length from List.length_map _]at ml;omega) aQ aP
  have hf:o5 (opsOf l) (⟨bh,⟨aQ,aP,aT⟩,aX,⟨⟨⟨bc,ba,bf⟩,bg⟩,au⟩,⟨⟨az,ay,ax⟩,aw⟩,⟨aC,aA⟩,al⟩:bR) (n+1) k=(decide ((⟨aQ,aP⟩:mL)∈wc (opsOf l) ⟨⟨bc,ba,bf⟩,bg+k⟩ ⟨aQ,aP⟩)&&o5 (opsOf l) (⟨bh,⟨aQ,aP,aT⟩,aX,⟨⟨⟨bc,ba,bf⟩,bg⟩,au⟩,⟨⟨az,ay,ax⟩,aw⟩,⟨aC,aA⟩,al⟩:bR) n (k+1)):=rfl
  rw[hf]at hQ
  clear hf hn
  cases right with
  | false =>
   simp[ah,ai,ae,af,ad, *,kN,hx.r,hax.r]
   all_goals exact hQ _ _ (by simp)
  | true =>
   by_cases hm:(⟨aQ,aP⟩:mL)∈wc (opsOf l) ⟨⟨bc,ba,bf⟩,bg+k⟩ ⟨aQ,aP⟩
   ·simp[ah,ai,ae,af,ad, *,kN,hx.r,hax.r]
    exact ih (k+1) _ true _ (by omega) (by simp) (by simp(maxDischargeDepth:=12) [aq,an,Fr.nil,aD,ah,ai,ae,af,ar,ao,ad, *]) (by simp(maxDischargeDepth:=12) [aq,an,Fr.nil,aD,ah,ai,ae,af,ar,ao,ad, *]) (.inr rfl) (fun y H' e=>hQ y H' (by rw[e];simp[hm]))
   ·simp[ah,ai,ae,af,ad, *,kN,hx.r,hax.r]
    all_goals exact hQ _ _ (by simp[hm])
theorem NO(l:List bR)(o:bR)(h3:o.kind=3):tO l o=(zB (Lu o) o.to&&o5 l o o.s.many.toNat 0):=by
 unfold tO
 rw[if_pos h3]
 congr 1
 have key : ∀n k,o5 l o n k=(List.range n).all (fun j=>decide (Lu o∈wc l ⟨o.s.f.h,o.s.f.n+((k+j:Nat):Int)⟩ (Lu o))):=by
  intro n
  induction n with
  | zero=>intro k;rfl
  | succ n ih =>
   intro k
   rw[o5,ih,List.range_succ_eq_map,List.all_cons,List.all_map]
   congr 1
   congr 1
   funext j
   simp only[Function.comp,Nat.succ_eq_add_one]
   rw[show k+1+j=k+(j+1) by omega]
 rw[key]
 simp
theorem Mh{l:List (bR × AV)}{x0:AV}(hx:Sl 17 (eU l) x0)(hall : ∀p∈l,ID p)(hl:l.length<100000)(bh:UInt8)(aQ:UInt8)(aP:UInt32)(aT:UInt8)(aX:Int)(bc:UInt8)(ba:UInt32)(bf:UInt8)(bg:Int)(au:Int)(az:UInt8)(ay:UInt32)(ax:UInt8)(aw:Int)(aC:UInt8)(aA:UInt32){al:List Int}{x:AV}(hax:Sl 1 (rows al) x)(hs:je ⟨⟨⟨bc,ba,bf⟩,bg⟩,au⟩=true) :
 bj env 169 [x0,.agg [a8 bh,a8 aQ,aF aP,a8 aT,aI aX,a8 bc,aF ba,a8 bf,aI bg,aI au,a8 az,aF ay,a8 ax,aI aw,a8 aC,aF aA,x]]=some (aB (tO (opsOf l) (⟨bh,⟨aQ,aP,aT⟩,aX,⟨⟨⟨bc,ba,bf⟩,bg⟩,au⟩,⟨⟨az,ay,ax⟩,aw⟩,⟨aC,aA⟩,al⟩:bR))):=by
 refine aL (fn:=Tryz.f169) (c:=rS) rfl (by kernel_rfl) (by kernel_rfl) (by kernel_rfl) (by kernel_rfl) ?_;refine C0 _ _ _ _ fun g=>?_
 by_cases h3:bh=3
 ·subst h3
  rw[NO _ _ rfl]
  have hn:=lF hs
  simp only at hn
  simp[ah,ai,ae,af,ad, *,rV,hx.r,hax.r]
  exact Ll hx hall hl 3 aQ aP aT aX bc ba bf bg au az ay ax aw aC aA hax hs au.toNat 0 _ _ _ (by omega) rfl (by simp(maxDischargeDepth:=12) [aq,an,Fr.nil,aD,ah,ai,ae,af,ar,ao,ad, *]) (by simp) (.inl rfl) (fun y H' e=>by rw[e];simp[Lu])
 ·have e:tO (opsOf l) (⟨bh,⟨aQ,aP,aT⟩,aX,⟨⟨⟨bc,ba,bf⟩,bg⟩,au⟩,⟨⟨az,ay,ax⟩,aw⟩,⟨aC,aA⟩,al⟩:bR)=true:=by unfold tO;rw[if_neg h3]
  simp[ah,ai,ae,af,ad, *,rV,hax.r]
theorem si{o:bR}(h:qy o=true):je o.s=true:=by
 simp only[qy,Bool.and_eq_true]at h
 exact h.2.2.2.1
theorem Jb{l:List (bR × AV)}{x0:AV}(hx:Sl 17 (eU l) x0)(hall : ∀p∈l,ID p)(hl:l.length<100000){Q:AV→ab→Prop} :
 ∀(s:List (bR × AV)) (k:Nat) (i:Int) (H:ab),l.drop k=s→k≤l.length→i=k→Fr H →
 (∀y H',y=aI (bad (wR (opsOf (l.take k)) (opsOf s)))→Q y H') →
 bP env Tryz.f168 0 lI [(10,aI i),(0,x0),(8,x0),(9,aI l.length)] H Q:=by
 intro s
 induction s with
 | nil =>
  rintro k i H hs hk rfl hF hQ
  obtain rfl:=drop_nil hs hk
  refine rZ _ _ _ _ _ _ fun g=>?_
  simp[ah,ai,ae,af,ad, *,jU]
  all_goals exact hQ _ _ rfl
 | cons p s ih =>
  rintro k i H hs hk rfl hF hQ
  obtain⟨hlt,hg,hs',hg'⟩:=drop_cons hs
  have hp:=hall p (by rw[←hg];exact List.getElem_mem _)
  obtain⟨⟨bh,⟨aQ,aP,aT⟩,aX,⟨⟨⟨bc,ba,bf⟩,bg⟩,au⟩,⟨⟨az,ay,ax⟩,aw⟩,⟨aC,aA⟩,al⟩,x⟩:=p
  obtain⟨hpx,hpl⟩:=hp
  simp only at hpx hpl
  refine rZ _ _ _ _ _ _ fun g=>?_
  have e3:=IntWalk.i64_in ((k:Int)+1) (by omega)
  have hc:=lG bh aQ aP aT aX bc ba bf bg au az ay ax aw aC aA hpx hpl
  have hst:Sl 17 (eU (l.take k)) (.cw 17 (eU (l.take k)) none):=Sl.mk _ _
  obtain⟨c,rfl,hcap⟩:=hx.SX (by intro e;have:=congrArg List.length e;simp at this;subst this;simp at hlt)
  have htk:l.take (k+1)=l.take k++[((⟨bh,⟨aQ,aP,aT⟩,aX,⟨⟨⟨bc,ba,bf⟩,bg⟩,au⟩,⟨⟨az,ay,ax⟩,aw⟩,⟨aC,aA⟩,al⟩:bR),x)]:=by rw[List.take_succ_eq_append_getElem hlt,hg]
  have hr:wR (opsOf (l.take k)) (opsOf (((⟨bh,⟨aQ,aP,aT⟩,aX,⟨⟨⟨bc,ba,bf⟩,bg⟩,au⟩,⟨⟨az,ay,ax⟩,aw⟩,⟨aC,aA⟩,al⟩:bR),x) :: s))=(qy (⟨bh,⟨aQ,aP,aT⟩,aX,⟨⟨⟨bc,ba,bf⟩,bg⟩,au⟩,⟨⟨az,ay,ax⟩,aw⟩,⟨aC,aA⟩,al⟩:bR)&&tO (opsOf (l.take k)) (⟨bh,⟨aQ,aP,aT⟩,aX,⟨⟨⟨bc,ba,bf⟩,bg⟩,au⟩,⟨⟨az,ay,ax⟩,aw⟩,⟨aC,aA⟩,al⟩:bR)&&wR (opsOf (l.take (k+1))) (opsOf s)):=by
   rw[htk]
   show(_&&wR (opsOf (l.take k)++[_]) (opsOf s))=_
   simp only[opsOf,List.map_append,List.map_cons,List.map_nil]
  rw[hr]at hQ
  have hlen:(l.take k).length<100000:=by rw[List.length_take];omega
  have htl:(eU l).take k=eU (l.take k):=by simp[eU,List.map_take]
  have k1:(k:Int)≤l.length:=by omega
  have k2:(0:Int)≤k:=by omega
  have hrd:dX (eU l) k 0 17 true=some (.agg [a8 bh,a8 aQ,aF aP,a8 aT,aI aX,a8 bc,aF ba,a8 bf,aI bg,aI au,a8 az,aF ay,a8 ax,aI aw,a8 aC,aF aA,x]):=by simp[eU,Fc,hg']
  clear hr htk
  cases ho:qy (⟨bh,⟨aQ,aP,aT⟩,aX,⟨⟨⟨bc,ba,bf⟩,bg⟩,au⟩,⟨⟨az,ay,ax⟩,aw⟩,⟨aC,aA⟩,al⟩:bR) with
  | false =>
   simp[ah,ai,ae,af,ad, *,jU,hx.r,hx.idx,hpx.r]
   all_goals exact hQ _ _ (by simp[ho,bad])
  | true =>
   have hck:k≤c.getD k:=by
    cases c with
    | none=>exact Nat.le_refl _
    | some c=>simp only[Option.getD_some,sA]at hcap ⊢;omega
   have hf : ∀c':Option Nat,k≤c'.getD k→bj env 169 [.cw 17 (eU (l.take k)) c',.agg [a8 bh,a8 aQ,aF aP,a8 aT,aI aX,a8 bc,aF ba,a8 bf,aI bg,aI au,a8 az,aF ay,a8 ax,aI aw,a8 aC,aF aA,x]]=some (aB (tO (opsOf (l.take k)) (⟨bh,⟨aQ,aP,aT⟩,aX,⟨⟨⟨bc,ba,bf⟩,bg⟩,au⟩,⟨⟨az,ay,ax⟩,aw⟩,⟨aC,aA⟩,al⟩:bR))):=by
    intro c' hc'
    have hkl:(eU (l.take k)).length=k:=by rw[sA,List.length_take];omega
    exact Mh (.inr ⟨c',rfl,by rw[hkl];exact hc'⟩) (fun p hp=>hall p (List.mem_of_mem_take hp)) hlen bh aQ aP aT aX bc ba bf bg au az ay ax aw aC aA hpx (si ho)
   cases hq:tO (opsOf (l.take k)) (⟨bh,⟨aQ,aP,aT⟩,aX,⟨⟨⟨bc,ba,bf⟩,bg⟩,au⟩,⟨⟨az,ay,ax⟩,aw⟩,⟨aC,aA⟩,al⟩:bR) with
   | false =>
    simp[ah,ai,ae,af,ad, *,jU,hx.r,hx.idx,hpx.r]
    all_goals exact hQ _ _ (by simp[ho,hq,bad])
   | true =>
    simp[ah,ai,ae,af,ad, *,jU,hx.r,hx.idx,hpx.r]
    exact ih (k+1) _ _ hs' (by omega) (by simp) (by simp(maxDischargeDepth:=12) [aq,an,Fr.nil,aD,ah,ai,ae,af,ar,ao,ad, *]) (fun y H' e=>hQ y H' (by rw[e];simp[ho,hq]))
section
variable{l:List (bR × AV)}{x0:AV}(hx:Sl 17 (eU l) x0)(hall : ∀p∈l,ID p)(hl:l.length<100000)
include hx hall hl
theorem KC:bj env 168 [x0]=some (aI (rQ (opsOf l))):=by
 refine aL (fn:=Tryz.f168) (c:=ql) rfl (by kernel_rfl) (by kernel_rfl) (by kernel_rfl) (by kernel_rfl) ?_;refine Bg _ _ _ fun g=>?_
 have hn:=hx.len
 have ho:(opsOf l).length=l.length:=List.length_map _
 by_cases h:2048<l.length
 ·have h':(2048:Int)<l.length:=by omega
  have e:rQ (opsOf l)=4:=by unfold rQ;rw[if_pos (by rw[ho];exact h)]
  simp[ah,ai,ae,af,ad, *,qx,hx.r]
 ·have h' : ¬(2048:Int)<l.length:=by omega
  have e:rQ (opsOf l)=bad (wR [] (opsOf l)):=by unfold rQ bad;rw[if_neg (by rw[ho];exact h)]
  simp[ah,ai,ae,af,ad, *,qx,hx.r]
  exact Jb hx hall hl l 0 _ _ rfl (by omega) rfl Fr.nil (fun y H' ey=>by rw[ey];simp[opsOf])
theorem MD(bh:UInt8)(aQ:UInt8)(aP:UInt32)(aT:UInt8)(aX:Int)(bc:UInt8)(ba:UInt32)(bf:UInt8)(bg:Int)(au:Int)(az:UInt8)(ay:UInt32)(ax:UInt8)(aw:Int)(aC:UInt8)(aA:UInt32){al:List Int}{x:AV}(hax:Sl 1 (rows al) x)(hal:al.length<2000000):bj env 159 [x0,.agg [a8 bh,a8 aQ,aF aP,a8 aT,aI aX,a8 bc,aF ba,a8 bf,aI bg,aI au,a8 az,aF ay,a8 ax,aI aw,a8 aC,aF aA,x]] =
 some (if rQ (opsOf l)=0 then (if qy (⟨bh,⟨aQ,aP,aT⟩,aX,⟨⟨⟨bc,ba,bf⟩,bg⟩,au⟩,⟨⟨az,ay,ax⟩,aw⟩,⟨aC,aA⟩,al⟩:bR) then .tup [aB (tO (opsOf l) (⟨bh,⟨aQ,aP,aT⟩,aX,⟨⟨⟨bc,ba,bf⟩,bg⟩,au⟩,⟨⟨az,ay,ax⟩,aw⟩,⟨aC,aA⟩,al⟩:bR)),aI 0] else .tup [aB false,aI 8]) else .tup [aB false,aI (rQ (opsOf l))]):=by
 refine aL (fn:=Tryz.f159) (c:=wF) rfl (by kernel_rfl) (by kernel_rfl) (by kernel_rfl) (by kernel_rfl) ?_;refine C1 _ _ _ _ fun g=>?_
 have h1:=KC hx hall hl
 have h2:=lG bh aQ aP aT aX bc ba bf bg au az ay ax aw aC aA hax hal
 by_cases h:rQ (opsOf l)=0
 ·rw[if_pos h]
  cases ho:qy (⟨bh,⟨aQ,aP,aT⟩,aX,⟨⟨⟨bc,ba,bf⟩,bg⟩,au⟩,⟨⟨az,ay,ax⟩,aw⟩,⟨aC,aA⟩,al⟩:bR) with
  | false=>simp[ah,ai,ae,af,ad, *,oS,hx.r,hax.r]
  | true =>
   have h3:=Mh hx hall hl bh aQ aP aT aX bc ba bf bg au az ay ax aw aC aA hax (si ho)
   simp[ah,ai,ae,af,ad, *,oS,hx.r,hax.r]
 ·rw[if_neg h]
  simp[ah,ai,ae,af,ad, *,oS,hx.r,hax.r]
end
end Go.Proofs.YtdbiffjdomokfaaGreat
