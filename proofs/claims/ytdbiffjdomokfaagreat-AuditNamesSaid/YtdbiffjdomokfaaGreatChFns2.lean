/-
  Chains: lists checked, what is shown. No statement of a seat is proved here.
-/
import Derived.Test.YtdbiffjdomokfaaGreatChFns
set_option linter.unusedVariables false
set_option linter.unusedSimpArgs false
set_option linter.unusedSectionVars false
set_option linter.unnecessarySimpa false
set_option maxRecDepth 100000
namespace Go.Proofs.YtdbiffjdomokfaaGreat
open Go.Ab
attribute [local simp] bK bw bo bM bL dc kS bU bx bH dJ dI cp bX bh cC List.take_of_length_le
theorem OG(out:List nw):Sl 2 (vQ out) (.cm 2 (vQ out) (Kd out)):=by
 refine .inr ⟨_,rfl,?_⟩
 unfold Kd
 split
 ·rename_i h;simp[h]
 ·simp
def oA(l:List bQ)(o:bQ):Nat→Nat→Bool
 | 0,_=>true
 | n+1,k=>decide (Ke o∈u9 l ⟨o.s.f.h,o.s.f.n+(k:Int)⟩ (Ke o))&&oA l o n (k+1)
theorem JM(l:List bQ)(i:eY)(v:nw):(u9 l i v).length≤1+l.length:=JN l i v [Yd i]
theorem J5{l:List (bQ × AV)}{x0:AV}(hx:Sl 17 (eJ l) x0)(hall : ∀p∈l,He p)(hl:l.length<100000)(bg:UInt8)(aP:UInt8)(aO:UInt32)(aT:UInt8)(aW:Int)(ba:UInt8)(aZ:UInt32)(bc:UInt8)(bf:Int)(au:Int)(az:UInt8)(ay:UInt32)(ax:UInt8)(aw:Int)(aC:UInt8)(aA:UInt32){al:List Int}{x:AV}(hax:Sl 1 (rows al) x)(hs:iO ⟨⟨⟨ba,aZ,bc⟩,bf⟩,au⟩=true){Q:AV→ab→Prop}{r3:Ref} :
 ∀(n k:Nat)(i:Int)(right:Bool)(H:ab),(k:Int)+n=au→i=k→Fr H→H.get r3=some ⟨17,[.agg [a8 bg,a8 aP,aF aO,a8 aT,aI aW,a8 ba,aF aZ,a8 bc,aI bf,aI au,a8 az,aF ay,a8 ax,aI aw,a8 aC,aF aA,x]],false,false⟩→(k=0∨right=true) →
 (∀y H',y=aB (right&&oA (opsOf l) (⟨bg,⟨aP,aO,aT⟩,aW,⟨⟨⟨ba,aZ,bc⟩,bf⟩,au⟩,⟨⟨az,ay,ax⟩,aw⟩,⟨aC,aA⟩,al⟩:bQ) n k)→Q y H') →
 bW env Tryz.f169 0 lS [(21,aI i),(3,.ptr r3 0 0),(0,x0),(5,aB right),(20,aI au)] H Q:=by
 have hn:=kU hs
 simp only at hn
 intro n
 induction n with
 | zero =>
  rintro k i right H hk rfl hF hB hr hQ
  refine sK _ _ _ _ _ _ _ fun g=>?_
  have hk' : ¬(k:Int)<au:=by omega
  simp[ah,ai,ae,af,ad, *,j6]
  all_goals exact hQ _ _ (by simp[oA])
 | succ n ih =>
  rintro k i right H hk rfl hF hB hr hQ
  refine sK _ _ _ _ _ _ _ fun g=>?_
  have hk':(k:Int)<au:=by omega
  have e3:=IntWalk.i64_in ((k:Int)+1) (by omega)
  have eA:M7 ⟨⟨⟨ba,aZ,bc⟩,bf⟩,au⟩ (k:Int)=0:=by
   unfold M7
   rw[if_pos hs,if_neg]
   simp only
   omega
  have h1:=Qf hx hall hl ba aZ bc (bf+k) (by omega) (by omega) aP aO
  have ml:=JM (opsOf l) ⟨⟨ba,aZ,bc⟩,bf+k⟩ ⟨aP,aO⟩
  have h2:=tw (OG (u9 (opsOf l) ⟨⟨ba,aZ,bc⟩,bf+k⟩ ⟨aP,aO⟩)) (by rw[show(opsOf l).length=l.length from List.length_map _]at ml;omega) aP aO
  have hf:oA (opsOf l) (⟨bg,⟨aP,aO,aT⟩,aW,⟨⟨⟨ba,aZ,bc⟩,bf⟩,au⟩,⟨⟨az,ay,ax⟩,aw⟩,⟨aC,aA⟩,al⟩:bQ) (n+1) k=(decide ((⟨aP,aO⟩:nw)∈u9 (opsOf l) ⟨⟨ba,aZ,bc⟩,bf+k⟩ ⟨aP,aO⟩)&&oA (opsOf l) (⟨bg,⟨aP,aO,aT⟩,aW,⟨⟨⟨ba,aZ,bc⟩,bf⟩,au⟩,⟨⟨az,ay,ax⟩,aw⟩,⟨aC,aA⟩,al⟩:bQ) n (k+1)):=rfl
  rw[hf]at hQ
  clear hf hn
  cases right with
  | false =>
   simp[ah,ai,ae,af,ad, *,j6,hx.r,hax.r]
   all_goals exact hQ _ _ (by simp)
  | true =>
   by_cases hm:(⟨aP,aO⟩:nw)∈u9 (opsOf l) ⟨⟨ba,aZ,bc⟩,bf+k⟩ ⟨aP,aO⟩
   ·simp[ah,ai,ae,af,ad, *,j6,hx.r,hax.r]
    exact ih (k+1) _ true _ (by omega) (by simp) (by simp(maxDischargeDepth:=12) [aq,an,Fr.nil,aD,ah,ai,ae,af,ar,ao,ad, *]) (by simp(maxDischargeDepth:=12) [aq,an,Fr.nil,aD,ah,ai,ae,af,ar,ao,ad, *]) (.inr rfl) (fun y H' e=>hQ y H' (by rw[e];simp[hm]))
   ·simp[ah,ai,ae,af,ad, *,j6,hx.r,hax.r]
    all_goals exact hQ _ _ (by simp[hm])
theorem L5(l:List bQ)(o:bQ)(h3:o.kind=3):sN l o=(Ck (Ke o) o.to&&oA l o o.s.many.toNat 0):=by
 unfold sN
 rw[if_pos h3]
 congr 1
 have key : ∀n k,oA l o n k=(List.range n).all (fun j=>decide (Ke o∈u9 l ⟨o.s.f.h,o.s.f.n+((k+j:Nat):Int)⟩ (Ke o))):=by
  intro n
  induction n with
  | zero=>intro k;rfl
  | succ n ih =>
   intro k
   rw[oA,ih,List.range_succ_eq_map,List.all_cons,List.all_map]
   congr 1
   congr 1
   funext j
   simp only[Function.comp,Nat.succ_eq_add_one]
   rw[show k+1+j=k+(j+1) by omega]
 rw[key]
 simp
theorem KL{l:List (bQ × AV)}{x0:AV}(hx:Sl 17 (eJ l) x0)(hall : ∀p∈l,He p)(hl:l.length<100000)(bg:UInt8)(aP:UInt8)(aO:UInt32)(aT:UInt8)(aW:Int)(ba:UInt8)(aZ:UInt32)(bc:UInt8)(bf:Int)(au:Int)(az:UInt8)(ay:UInt32)(ax:UInt8)(aw:Int)(aC:UInt8)(aA:UInt32){al:List Int}{x:AV}(hax:Sl 1 (rows al) x)(hs:iO ⟨⟨⟨ba,aZ,bc⟩,bf⟩,au⟩=true) :
 bj env 169 [x0,.agg [a8 bg,a8 aP,aF aO,a8 aT,aI aW,a8 ba,aF aZ,a8 bc,aI bf,aI au,a8 az,aF ay,a8 ax,aI aw,a8 aC,aF aA,x]]=some (aB (sN (opsOf l) (⟨bg,⟨aP,aO,aT⟩,aW,⟨⟨⟨ba,aZ,bc⟩,bf⟩,au⟩,⟨⟨az,ay,ax⟩,aw⟩,⟨aC,aA⟩,al⟩:bQ))):=by
 refine aJ (fn:=Tryz.f169) (c:=qX) rfl (by kernel_rfl) (by kernel_rfl) (by kernel_rfl) (by kernel_rfl) ?_;refine BZ _ _ _ _ fun g=>?_
 by_cases h3:bg=3
 ·subst h3
  rw[L5 _ _ rfl]
  have hn:=kU hs
  simp only at hn
  simp[ah,ai,ae,af,ad, *,q0,hx.r,hax.r]
  exact J5 hx hall hl 3 aP aO aT aW ba aZ bc bf au az ay ax aw aC aA hax hs au.toNat 0 _ _ _ (by omega) rfl (by simp(maxDischargeDepth:=12) [aq,an,Fr.nil,aD,ah,ai,ae,af,ar,ao,ad, *]) (by simp) (.inl rfl) (fun y H' e=>by rw[e];simp[Ke])
 ·have e:sN (opsOf l) (⟨bg,⟨aP,aO,aT⟩,aW,⟨⟨⟨ba,aZ,bc⟩,bf⟩,au⟩,⟨⟨az,ay,ax⟩,aw⟩,⟨aC,aA⟩,al⟩:bQ)=true:=by unfold sN;rw[if_neg h3]
  simp[ah,ai,ae,af,ad, *,q0,hax.r]
theorem rz{o:bQ}(h:pW o=true):iO o.s=true:=by
 simp only[pW,Bool.and_eq_true]at h
 exact h.2.2.2.1
theorem HJ{l:List (bQ × AV)}{x0:AV}(hx:Sl 17 (eJ l) x0)(hall : ∀p∈l,He p)(hl:l.length<100000){Q:AV→ab→Prop} :
 ∀(s:List (bQ × AV)) (k:Nat) (i:Int) (H:ab),l.drop k=s→k≤l.length→i=k→Fr H →
 (∀y H',y=aI (bad (vK (opsOf (l.take k)) (opsOf s)))→Q y H') →
 bW env Tryz.f168 0 kX [(10,aI i),(0,x0),(8,x0),(9,aI l.length)] H Q:=by
 intro s
 induction s with
 | nil =>
  rintro k i H hs hk rfl hF hQ
  obtain rfl:=drop_nil hs hk
  refine ra _ _ _ _ _ _ fun g=>?_
  simp[ah,ai,ae,af,ad, *,jB]
  all_goals exact hQ _ _ rfl
 | cons p s ih =>
  rintro k i H hs hk rfl hF hQ
  obtain⟨hlt,hg,hs',hg'⟩:=drop_cons hs
  have hp:=hall p (by rw[←hg];exact List.getElem_mem _)
  obtain⟨⟨bg,⟨aP,aO,aT⟩,aW,⟨⟨⟨ba,aZ,bc⟩,bf⟩,au⟩,⟨⟨az,ay,ax⟩,aw⟩,⟨aC,aA⟩,al⟩,x⟩:=p
  obtain⟨hpx,hpl⟩:=hp
  simp only at hpx hpl
  refine ra _ _ _ _ _ _ fun g=>?_
  have e3:=IntWalk.i64_in ((k:Int)+1) (by omega)
  have hc:=kV bg aP aO aT aW ba aZ bc bf au az ay ax aw aC aA hpx hpl
  have hst:Sl 17 (eJ (l.take k)) (.cm 17 (eJ (l.take k)) none):=Sl.mk _ _
  obtain⟨c,rfl,hcap⟩:=hx.QY (by intro e;have:=congrArg List.length e;simp at this;subst this;simp at hlt)
  have htk:l.take (k+1)=l.take k++[((⟨bg,⟨aP,aO,aT⟩,aW,⟨⟨⟨ba,aZ,bc⟩,bf⟩,au⟩,⟨⟨az,ay,ax⟩,aw⟩,⟨aC,aA⟩,al⟩:bQ),x)]:=by rw[List.take_succ_eq_append_getElem hlt,hg]
  have hr:vK (opsOf (l.take k)) (opsOf (((⟨bg,⟨aP,aO,aT⟩,aW,⟨⟨⟨ba,aZ,bc⟩,bf⟩,au⟩,⟨⟨az,ay,ax⟩,aw⟩,⟨aC,aA⟩,al⟩:bQ),x) :: s))=(pW (⟨bg,⟨aP,aO,aT⟩,aW,⟨⟨⟨ba,aZ,bc⟩,bf⟩,au⟩,⟨⟨az,ay,ax⟩,aw⟩,⟨aC,aA⟩,al⟩:bQ)&&sN (opsOf (l.take k)) (⟨bg,⟨aP,aO,aT⟩,aW,⟨⟨⟨ba,aZ,bc⟩,bf⟩,au⟩,⟨⟨az,ay,ax⟩,aw⟩,⟨aC,aA⟩,al⟩:bQ)&&vK (opsOf (l.take (k+1))) (opsOf s)):=by
   rw[htk]
   show(_&&vK (opsOf (l.take k)++[_]) (opsOf s))=_
   simp only[opsOf,List.map_append,List.map_cons,List.map_nil]
  rw[hr]at hQ
  have hlen:(l.take k).length<100000:=by rw[List.length_take];omega
  have htl:(eJ l).take k=eJ (l.take k):=by simp[eJ,List.map_take]
  have k1:(k:Int)≤l.length:=by omega
  have k2:(0:Int)≤k:=by omega
  have hrd:eQ (eJ l) k 0 17 true=some (.agg [a8 bg,a8 aP,aF aO,a8 aT,aI aW,a8 ba,aF aZ,a8 bc,aI bf,aI au,a8 az,aF ay,a8 ax,aI aw,a8 aC,aF aA,x]):=by simp[eJ,Ed,hg']
  clear hr htk
  cases ho:pW (⟨bg,⟨aP,aO,aT⟩,aW,⟨⟨⟨ba,aZ,bc⟩,bf⟩,au⟩,⟨⟨az,ay,ax⟩,aw⟩,⟨aC,aA⟩,al⟩:bQ) with
  | false =>
   simp[ah,ai,ae,af,ad, *,jB,hx.r,hx.idx,hpx.r]
   all_goals exact hQ _ _ (by simp[ho,bad])
  | true =>
   have hck:k≤c.getD k:=by
    cases c with
    | none=>exact Nat.le_refl _
    | some c=>simp only[Option.getD_some,rG]at hcap ⊢;omega
   have hf : ∀c':Option Nat,k≤c'.getD k→bj env 169 [.cm 17 (eJ (l.take k)) c',.agg [a8 bg,a8 aP,aF aO,a8 aT,aI aW,a8 ba,aF aZ,a8 bc,aI bf,aI au,a8 az,aF ay,a8 ax,aI aw,a8 aC,aF aA,x]]=some (aB (sN (opsOf (l.take k)) (⟨bg,⟨aP,aO,aT⟩,aW,⟨⟨⟨ba,aZ,bc⟩,bf⟩,au⟩,⟨⟨az,ay,ax⟩,aw⟩,⟨aC,aA⟩,al⟩:bQ))):=by
    intro c' hc'
    have hkl:(eJ (l.take k)).length=k:=by rw[rG,List.length_take];omega
    exact KL (.inr ⟨c',rfl,by rw[hkl];exact hc'⟩) (fun p hp=>hall p (List.mem_of_mem_take hp)) hlen bg aP aO aT aW ba aZ bc bf au az ay ax aw aC aA hpx (rz ho)
   cases hq:sN (opsOf (l.take k)) (⟨bg,⟨aP,aO,aT⟩,aW,⟨⟨⟨ba,aZ,bc⟩,bf⟩,au⟩,⟨⟨az,ay,ax⟩,aw⟩,⟨aC,aA⟩,al⟩:bQ) with
   | false =>
    simp[ah,ai,ae,af,ad, *,jB,hx.r,hx.idx,hpx.r]
    all_goals exact hQ _ _ (by simp[ho,hq,bad])
   | true =>
    simp[ah,ai,ae,af,ad, *,jB,hx.r,hx.idx,hpx.r]
    exact ih (k+1) _ _ hs' (by omega) (by simp) (by simp(maxDischargeDepth:=12) [aq,an,Fr.nil,aD,ah,ai,ae,af,ar,ao,ad, *]) (fun y H' e=>hQ y H' (by rw[e];simp[ho,hq]))
section
variable{l:List (bQ × AV)}{x0:AV}(hx:Sl 17 (eJ l) x0)(hall : ∀p∈l,He p)(hl:l.length<100000)
include hx hall hl
theorem Jl:bj env 168 [x0]=some (aI (qV (opsOf l))):=by
 refine aJ (fn:=Tryz.f168) (c:=pL) rfl (by kernel_rfl) (by kernel_rfl) (by kernel_rfl) (by kernel_rfl) ?_;refine Ag _ _ _ fun g=>?_
 have hn:=hx.len
 have ho:(opsOf l).length=l.length:=List.length_map _
 by_cases h:2048<l.length
 ·have h':(2048:Int)<l.length:=by omega
  have e:qV (opsOf l)=4:=by unfold qV;rw[if_pos (by rw[ho];exact h)]
  simp[ah,ai,ae,af,ad, *,pU,hx.r]
 ·have h' : ¬(2048:Int)<l.length:=by omega
  have e:qV (opsOf l)=bad (vK [] (opsOf l)):=by unfold qV bad;rw[if_neg (by rw[ho];exact h)]
  simp[ah,ai,ae,af,ad, *,pU,hx.r]
  exact HJ hx hall hl l 0 _ _ rfl (by omega) rfl Fr.nil (fun y H' ey=>by rw[ey];simp[opsOf])
theorem K5(bg:UInt8)(aP:UInt8)(aO:UInt32)(aT:UInt8)(aW:Int)(ba:UInt8)(aZ:UInt32)(bc:UInt8)(bf:Int)(au:Int)(az:UInt8)(ay:UInt32)(ax:UInt8)(aw:Int)(aC:UInt8)(aA:UInt32){al:List Int}{x:AV}(hax:Sl 1 (rows al) x)(hal:al.length<2000000):bj env 159 [x0,.agg [a8 bg,a8 aP,aF aO,a8 aT,aI aW,a8 ba,aF aZ,a8 bc,aI bf,aI au,a8 az,aF ay,a8 ax,aI aw,a8 aC,aF aA,x]] =
 some (if qV (opsOf l)=0 then (if pW (⟨bg,⟨aP,aO,aT⟩,aW,⟨⟨⟨ba,aZ,bc⟩,bf⟩,au⟩,⟨⟨az,ay,ax⟩,aw⟩,⟨aC,aA⟩,al⟩:bQ) then .tup [aB (sN (opsOf l) (⟨bg,⟨aP,aO,aT⟩,aW,⟨⟨⟨ba,aZ,bc⟩,bf⟩,au⟩,⟨⟨az,ay,ax⟩,aw⟩,⟨aC,aA⟩,al⟩:bQ)),aI 0] else .tup [aB false,aI 8]) else .tup [aB false,aI (qV (opsOf l))]):=by
 refine aJ (fn:=Tryz.f159) (c:=vw) rfl (by kernel_rfl) (by kernel_rfl) (by kernel_rfl) (by kernel_rfl) ?_;refine B0 _ _ _ _ fun g=>?_
 have h1:=Jl hx hall hl
 have h2:=kV bg aP aO aT aW ba aZ bc bf au az ay ax aw aC aA hax hal
 by_cases h:qV (opsOf l)=0
 ·rw[if_pos h]
  cases ho:pW (⟨bg,⟨aP,aO,aT⟩,aW,⟨⟨⟨ba,aZ,bc⟩,bf⟩,au⟩,⟨⟨az,ay,ax⟩,aw⟩,⟨aC,aA⟩,al⟩:bQ) with
  | false=>simp[ah,ai,ae,af,ad, *,od,hx.r,hax.r]
  | true =>
   have h3:=KL hx hall hl bg aP aO aT aW ba aZ bc bf au az ay ax aw aC aA hax (rz ho)
   simp[ah,ai,ae,af,ad, *,od,hx.r,hax.r]
 ·rw[if_neg h]
  simp[ah,ai,ae,af,ad, *,od,hx.r,hax.r]
end
end Go.Proofs.YtdbiffjdomokfaaGreat
