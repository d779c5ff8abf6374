/-
  Chains: lists checked, what is shown. No statement of a seat is proved here.
-/
import Derived.Test.YtdbiffjdomokfaaGreatChFns
set_option linter.unusedVariables false
set_option linter.unusedSimpArgs false
set_option linter.unusedSectionVars false
set_option linter.unnecessarySimpa false
set_option maxRecDepth 100000
namespace Go.Proofs.YtdbiffjdomokfaaGreat
open Go.Ab
attribute [local simp] bD bp bl bC bB cV lj bP bt bA dc db cg bR aV cm List.take_of_length_le
theorem Rh(out:List jz):Sl 2 (xB out) (.cw 2 (xB out) (Mm out)):=by
 refine .inr ⟨_,rfl,?_⟩
 unfold Mm
 split
 ·rename_i h;simp[h]
 ·simp
def pq(l:List bG)(o:bG):Nat→Nat→Bool
 | 0,_=>true
 | n+1,k=>decide (JZ o∈vc l ⟨o.s.f.h,o.s.f.n+(k:Int)⟩ (JZ o))&&pq l o n (k+1)
theorem LU(l:List bG)(i:eE)(v:jz):(vc l i v).length≤1+l.length:=LV l i v [RF i]
theorem Mb{l:List (bG × AV)}{x0:AV}(hx:Sl 17 (eV l) x0)(hall : ∀p∈l,Jm p)(hl:l.length<100000)(bh:UInt8)(aQ:UInt8)(aP:UInt32)(aW:UInt8)(aY:Int)(bc:UInt8)(ba:UInt32)(bf:UInt8)(bg:Int)(au:Int)(az:UInt8)(ay:UInt32)(ax:UInt8)(aw:Int)(aC:UInt8)(aA:UInt32){al:List Int}{x:AV}(hax:Sl 1 (rows al) x)(hs:jg ⟨⟨⟨bc,ba,bf⟩,bg⟩,au⟩=true){Q:AV→ab→Prop}{r3:Ref} :
 ∀(n k:Nat)(i:Int)(right:Bool)(H:ab),(k:Int)+n=au→i=k→Fr H→H.get r3=some ⟨17,[.agg [a8 bh,a8 aQ,aG aP,a8 aW,aI aY,a8 bc,aG ba,a8 bf,aI bg,aI au,a8 az,aG ay,a8 ax,aI aw,a8 aC,aG aA,x]],false,false⟩→(k=0∨right=true) →
 (∀y H',y=aB (right&&pq (opsOf l) (⟨bh,⟨aQ,aP,aW⟩,aY,⟨⟨⟨bc,ba,bf⟩,bg⟩,au⟩,⟨⟨az,ay,ax⟩,aw⟩,⟨aC,aA⟩,al⟩:bG) n k)→Q y H') →
 bT env Tryz.f169 0 mK [(21,aI i),(3,.ptr r3 0 0),(0,x0),(5,aB right),(20,aI au)] H Q:=by
 have hn:=ko hs
 simp only at hn
 intro n
 induction n with
 | zero =>
  rintro k i right H hk rfl hF hB hr hQ
  refine ug _ _ _ _ _ _ _ fun g=>?_
  have hk' : ¬(k:Int)<au:=by omega
  simp[ah,ai,ae,af,ad, *,kT]
  all_goals exact hQ _ _ (by simp[pq])
 | succ n ih =>
  rintro k i right H hk rfl hF hB hr hQ
  refine ug _ _ _ _ _ _ _ fun g=>?_
  have hk':(k:Int)<au:=by omega
  have e3:=IntWalk.i64_in ((k:Int)+1) (by omega)
  have eA:PB ⟨⟨⟨bc,ba,bf⟩,bg⟩,au⟩ (k:Int)=0:=by
   unfold PB
   rw[if_pos hs,if_neg]
   simp only
   omega
  have h1:=SO hx hall hl bc ba bf (bg+k) (by omega) (by omega) aQ aP
  have ml:=LU (opsOf l) ⟨⟨bc,ba,bf⟩,bg+k⟩ ⟨aQ,aP⟩
  have h2:=uX (Rh (vc (opsOf l) ⟨⟨bc,ba,bf⟩,bg+k⟩ ⟨aQ,aP⟩)) (by rw[show(opsOf l).length=l.length from List.length_map _]at ml;omega) aQ aP
  have hf:pq (opsOf l) (⟨bh,⟨aQ,aP,aW⟩,aY,⟨⟨⟨bc,ba,bf⟩,bg⟩,au⟩,⟨⟨az,ay,ax⟩,aw⟩,⟨aC,aA⟩,al⟩:bG) (n+1) k=(decide ((⟨aQ,aP⟩:jz)∈vc (opsOf l) ⟨⟨bc,ba,bf⟩,bg+k⟩ ⟨aQ,aP⟩)&&pq (opsOf l) (⟨bh,⟨aQ,aP,aW⟩,aY,⟨⟨⟨bc,ba,bf⟩,bg⟩,au⟩,⟨⟨az,ay,ax⟩,aw⟩,⟨aC,aA⟩,al⟩:bG) n (k+1)):=rfl
  rw[hf]at hQ
  clear hf hn
  cases right with
  | false =>
   simp[ah,ai,ae,af,ad, *,kT,hx.r,hax.r]
   all_goals exact hQ _ _ (by simp)
  | true =>
   by_cases hm:(⟨aQ,aP⟩:jz)∈vc (opsOf l) ⟨⟨bc,ba,bf⟩,bg+k⟩ ⟨aQ,aP⟩
   ·simp[ah,ai,ae,af,ad, *,kT,hx.r,hax.r]
    exact ih (k+1) _ true _ (by omega) (by simp) (by simp(maxDischargeDepth:=12) [aq,an,Fr.nil,aD,ah,ai,ae,af,ar,ao,ad, *]) (by simp(maxDischargeDepth:=12) [aq,an,Fr.nil,aD,ah,ai,ae,af,ar,ao,ad, *]) (.inr rfl) (fun y H' e=>hQ y H' (by rw[e];simp[hm]))
   ·simp[ah,ai,ae,af,ad, *,kT,hx.r,hax.r]
    all_goals exact hQ _ _ (by simp[hm])
theorem OD(l:List bG)(o:bG)(h3:o.kind=3):mz l o=(nP (JZ o) o.to&&pq l o o.s.many.toNat 0):=by
 unfold mz
 rw[if_pos h3]
 congr 1
 have key : ∀n k,pq l o n k=(List.range n).all (fun j=>decide (JZ o∈vc l ⟨o.s.f.h,o.s.f.n+((k+j:Nat):Int)⟩ (JZ o))):=by
  intro n
  induction n with
  | zero=>intro k;rfl
  | succ n ih =>
   intro k
   rw[pq,ih,List.range_succ_eq_map,List.all_cons,List.all_map]
   congr 1
   congr 1
   funext j
   simp only[Function.comp,Nat.succ_eq_add_one]
   rw[show k+1+j=k+(j+1) by omega]
 rw[key]
 simp
theorem Nc{l:List (bG × AV)}{x0:AV}(hx:Sl 17 (eV l) x0)(hall : ∀p∈l,Jm p)(hl:l.length<100000)(bh:UInt8)(aQ:UInt8)(aP:UInt32)(aW:UInt8)(aY:Int)(bc:UInt8)(ba:UInt32)(bf:UInt8)(bg:Int)(au:Int)(az:UInt8)(ay:UInt32)(ax:UInt8)(aw:Int)(aC:UInt8)(aA:UInt32){al:List Int}{x:AV}(hax:Sl 1 (rows al) x)(hs:jg ⟨⟨⟨bc,ba,bf⟩,bg⟩,au⟩=true) :
 bj env 169 [x0,.agg [a8 bh,a8 aQ,aG aP,a8 aW,aI aY,a8 bc,aG ba,a8 bf,aI bg,aI au,a8 az,aG ay,a8 ax,aI aw,a8 aC,aG aA,x]]=some (aB (mz (opsOf l) (⟨bh,⟨aQ,aP,aW⟩,aY,⟨⟨⟨bc,ba,bf⟩,bg⟩,au⟩,⟨⟨az,ay,ax⟩,aw⟩,⟨aC,aA⟩,al⟩:bG))):=by
 refine aK (fn:=Tryz.f169) (c:=sh) rfl (by kernel_rfl) (by kernel_rfl) (by kernel_rfl) (by kernel_rfl) ?_;refine Dw _ _ _ _ fun g=>?_
 by_cases h3:bh=3
 ·subst h3
  rw[OD _ _ rfl]
  have hn:=ko hs
  simp only at hn
  simp[ah,ai,ae,af,ad, *,sk,hx.r,hax.r]
  exact Mb hx hall hl 3 aQ aP aW aY bc ba bf bg au az ay ax aw aC aA hax hs au.toNat 0 _ _ _ (by omega) rfl (by simp(maxDischargeDepth:=12) [aq,an,Fr.nil,aD,ah,ai,ae,af,ar,ao,ad, *]) (by simp) (.inl rfl) (fun y H' e=>by rw[e];simp[JZ])
 ·have e:mz (opsOf l) (⟨bh,⟨aQ,aP,aW⟩,aY,⟨⟨⟨bc,ba,bf⟩,bg⟩,au⟩,⟨⟨az,ay,ax⟩,aw⟩,⟨aC,aA⟩,al⟩:bG)=true:=by unfold mz;rw[if_neg h3]
  simp[ah,ai,ae,af,ad, *,sk,hax.r]
theorem I7(s t:List bG) : ∀l,kq l (s++t)=(kq l s&&kq (l++s) t):=by
 induction s with
 | nil=>intro l;simp[kq]
 | cons o s ih =>
  intro l
  show(mT o&&mz l o&&kq (l++[o]) (s++t))=(mT o&&mz l o&&kq (l++[o]) s&&kq (l++o :: s) t)
  rw[ih,List.append_assoc,List.singleton_append]
  simp only[Bool.and_assoc]
theorem pf{o:bG}(h:mT o=true):jg o.s=true:=by
 simp only[mT,Bool.and_eq_true]at h
 exact h.2.2.2.1
theorem JV{l:List (bG × AV)}{x0:AV}(hx:Sl 17 (eV l) x0)(hall : ∀p∈l,Jm p)(hl:l.length<100000){Q:AV→ab→Prop} :
 ∀(s:List (bG × AV)) (k:Nat) (i:Int) (H:ab),l.drop k=s→k≤l.length→i=k→Fr H →
 (∀y H',y=aI (bad (kq (opsOf (l.take k)) (opsOf s)))→Q y H') →
 bT env Tryz.f168 0 lQ [(10,aI i),(0,x0),(8,x0),(9,aI l.length)] H Q:=by
 intro s
 induction s with
 | nil =>
  rintro k i H hs hk rfl hF hQ
  obtain rfl:=drop_nil hs hk
  refine sw _ _ _ _ _ _ fun g=>?_
  simp[ah,ai,ae,af,ad, *,jV]
  all_goals exact hQ _ _ rfl
 | cons p s ih =>
  rintro k i H hs hk rfl hF hQ
  obtain⟨hlt,hg,hs',hg'⟩:=drop_cons hs
  have hp:=hall p (by rw[←hg];exact List.getElem_mem _)
  obtain⟨⟨bh,⟨aQ,aP,aW⟩,aY,⟨⟨⟨bc,ba,bf⟩,bg⟩,au⟩,⟨⟨az,ay,ax⟩,aw⟩,⟨aC,aA⟩,al⟩,x⟩:=p
  obtain⟨hpx,hpl⟩:=hp
  simp only at hpx hpl
  refine sw _ _ _ _ _ _ fun g=>?_
  have e3:=IntWalk.i64_in ((k:Int)+1) (by omega)
  have hc:=lO bh aQ aP aW aY bc ba bf bg au az ay ax aw aC aA hpx hpl
  have hst:Sl 17 (eV (l.take k)) (.cw 17 (eV (l.take k)) none):=Sl.mk _ _
  obtain⟨c,rfl,hcap⟩:=hx.TB (by intro e;have:=congrArg List.length e;simp at this;subst this;simp at hlt)
  have htk:l.take (k+1)=l.take k++[((⟨bh,⟨aQ,aP,aW⟩,aY,⟨⟨⟨bc,ba,bf⟩,bg⟩,au⟩,⟨⟨az,ay,ax⟩,aw⟩,⟨aC,aA⟩,al⟩:bG),x)]:=by rw[List.take_succ_eq_append_getElem hlt,hg]
  have hr:kq (opsOf (l.take k)) (opsOf (((⟨bh,⟨aQ,aP,aW⟩,aY,⟨⟨⟨bc,ba,bf⟩,bg⟩,au⟩,⟨⟨az,ay,ax⟩,aw⟩,⟨aC,aA⟩,al⟩:bG),x) :: s))=(mT (⟨bh,⟨aQ,aP,aW⟩,aY,⟨⟨⟨bc,ba,bf⟩,bg⟩,au⟩,⟨⟨az,ay,ax⟩,aw⟩,⟨aC,aA⟩,al⟩:bG)&&mz (opsOf (l.take k)) (⟨bh,⟨aQ,aP,aW⟩,aY,⟨⟨⟨bc,ba,bf⟩,bg⟩,au⟩,⟨⟨az,ay,ax⟩,aw⟩,⟨aC,aA⟩,al⟩:bG)&&kq (opsOf (l.take (k+1))) (opsOf s)):=by
   rw[htk]
   show(_&&kq (opsOf (l.take k)++[_]) (opsOf s))=_
   simp only[opsOf,List.map_append,List.map_cons,List.map_nil]
  rw[hr]at hQ
  have hlen:(l.take k).length<100000:=by rw[List.length_take];omega
  have htl:(eV l).take k=eV (l.take k):=by simp[eV,List.map_take]
  have k1:(k:Int)≤l.length:=by omega
  have k2:(0:Int)≤k:=by omega
  have hrd:eL (eV l) k 0 17 true=some (.agg [a8 bh,a8 aQ,aG aP,a8 aW,aI aY,a8 bc,aG ba,a8 bf,aI bg,aI au,a8 az,aG ay,a8 ax,aI aw,a8 aC,aG aA,x]):=by simp[eV,FQ,hg']
  clear hr htk
  cases ho:mT (⟨bh,⟨aQ,aP,aW⟩,aY,⟨⟨⟨bc,ba,bf⟩,bg⟩,au⟩,⟨⟨az,ay,ax⟩,aw⟩,⟨aC,aA⟩,al⟩:bG) with
  | false =>
   simp[ah,ai,ae,af,ad, *,jV,hx.r,hx.idx,hpx.r]
   all_goals exact hQ _ _ (by simp[ho,bad])
  | true =>
   have hck:k≤c.getD k:=by
    cases c with
    | none=>exact Nat.le_refl _
    | some c=>simp only[Option.getD_some,sR]at hcap ⊢;omega
   have hf : ∀c':Option Nat,k≤c'.getD k→bj env 169 [.cw 17 (eV (l.take k)) c',.agg [a8 bh,a8 aQ,aG aP,a8 aW,aI aY,a8 bc,aG ba,a8 bf,aI bg,aI au,a8 az,aG ay,a8 ax,aI aw,a8 aC,aG aA,x]]=some (aB (mz (opsOf (l.take k)) (⟨bh,⟨aQ,aP,aW⟩,aY,⟨⟨⟨bc,ba,bf⟩,bg⟩,au⟩,⟨⟨az,ay,ax⟩,aw⟩,⟨aC,aA⟩,al⟩:bG))):=by
    intro c' hc'
    have hkl:(eV (l.take k)).length=k:=by rw[sR,List.length_take];omega
    exact Nc (.inr ⟨c',rfl,by rw[hkl];exact hc'⟩) (fun p hp=>hall p (List.mem_of_mem_take hp)) hlen bh aQ aP aW aY bc ba bf bg au az ay ax aw aC aA hpx (pf ho)
   cases hq:mz (opsOf (l.take k)) (⟨bh,⟨aQ,aP,aW⟩,aY,⟨⟨⟨bc,ba,bf⟩,bg⟩,au⟩,⟨⟨az,ay,ax⟩,aw⟩,⟨aC,aA⟩,al⟩:bG) with
   | false =>
    simp[ah,ai,ae,af,ad, *,jV,hx.r,hx.idx,hpx.r]
    all_goals exact hQ _ _ (by simp[ho,hq,bad])
   | true =>
    simp[ah,ai,ae,af,ad, *,jV,hx.r,hx.idx,hpx.r]
    exact ih (k+1) _ _ hs' (by omega) (by simp) (by simp(maxDischargeDepth:=12) [aq,an,Fr.nil,aD,ah,ai,ae,af,ar,ao,ad, *]) (fun y H' e=>hQ y H' (by rw[e];simp[ho,hq]))
section
variable{l:List (bG × AV)}{x0:AV}(hx:Sl 17 (eV l) x0)(hall : ∀p∈l,Jm p)(hl:l.length<100000)
include hx hall hl
theorem Lr:bj env 168 [x0]=some (aI (nZ (opsOf l))):=by
 refine aK (fn:=Tryz.f168) (c:=qF) rfl (by kernel_rfl) (by kernel_rfl) (by kernel_rfl) (by kernel_rfl) ?_;refine BH _ _ _ fun g=>?_
 have hn:=hx.len
 have ho:(opsOf l).length=l.length:=List.length_map _
 by_cases h:2048<l.length
 ·have h':(2048:Int)<l.length:=by omega
  have e:nZ (opsOf l)=4:=by unfold nZ;rw[if_pos (by rw[ho];exact h)]
  simp[ah,ai,ae,af,ad, *,qO,hx.r]
 ·have h' : ¬(2048:Int)<l.length:=by omega
  have e:nZ (opsOf l)=bad (kq [] (opsOf l)):=by unfold nZ bad;rw[if_neg (by rw[ho];exact h)]
  simp[ah,ai,ae,af,ad, *,qO,hx.r]
  exact JV hx hall hl l 0 _ _ rfl (by omega) rfl Fr.nil (fun y H' ey=>by rw[ey];simp[opsOf])
theorem Nx(bh:UInt8)(aQ:UInt8)(aP:UInt32)(aW:UInt8)(aY:Int)(bc:UInt8)(ba:UInt32)(bf:UInt8)(bg:Int)(au:Int)(az:UInt8)(ay:UInt32)(ax:UInt8)(aw:Int)(aC:UInt8)(aA:UInt32){al:List Int}{x:AV}(hax:Sl 1 (rows al) x)(hal:al.length<2000000):bj env 159 [x0,.agg [a8 bh,a8 aQ,aG aP,a8 aW,aI aY,a8 bc,aG ba,a8 bf,aI bg,aI au,a8 az,aG ay,a8 ax,aI aw,a8 aC,aG aA,x]] =
 some (if nZ (opsOf l)=0 then (if mT (⟨bh,⟨aQ,aP,aW⟩,aY,⟨⟨⟨bc,ba,bf⟩,bg⟩,au⟩,⟨⟨az,ay,ax⟩,aw⟩,⟨aC,aA⟩,al⟩:bG) then .tup [aB (mz (opsOf l) (⟨bh,⟨aQ,aP,aW⟩,aY,⟨⟨⟨bc,ba,bf⟩,bg⟩,au⟩,⟨⟨az,ay,ax⟩,aw⟩,⟨aC,aA⟩,al⟩:bG)),aI 0] else .tup [aB false,aI 8]) else .tup [aB false,aI (nZ (opsOf l))]):=by
 refine aK (fn:=Tryz.f159) (c:=xc) rfl (by kernel_rfl) (by kernel_rfl) (by kernel_rfl) (by kernel_rfl) ?_;refine Dx _ _ _ _ fun g=>?_
 have h1:=Lr hx hall hl
 have h2:=lO bh aQ aP aW aY bc ba bf bg au az ay ax aw aC aA hax hal
 by_cases h:nZ (opsOf l)=0
 ·rw[if_pos h]
  cases ho:mT (⟨bh,⟨aQ,aP,aW⟩,aY,⟨⟨⟨bc,ba,bf⟩,bg⟩,au⟩,⟨⟨az,ay,ax⟩,aw⟩,⟨aC,aA⟩,al⟩:bG) with
  | false=>simp[ah,ai,ae,af,ad, *,o7,hx.r,hax.r]
  | true =>
   have h3:=Nc hx hall hl bh aQ aP aW aY bc ba bf bg au az ay ax aw aC aA hax (pf ho)
   simp[ah,ai,ae,af,ad, *,o7,hx.r,hax.r]
 ·rw[if_neg h]
  simp[ah,ai,ae,af,ad, *,o7,hx.r,hax.r]
end
end Go.Proofs.YtdbiffjdomokfaaGreat
