/-
  Which records are there, by place: plain laws. No statement of a seat is proved here.
-/
import Derived.Test.YtmjkpdknicjjgaaLogAll
set_option linter.unusedVariables false
set_option linter.unusedSimpArgs false
set_option linter.unusedSectionVars false
set_option linter.unnecessarySimpa false
set_option maxRecDepth 100000
namespace Go.Proofs.Ytmjkpdknicjjgaa
open Go.Ab
theorem E1 (d:Dk) (p:Int) (n:Nat) {i:Nat} (h:i<n):(gT d p n)[i]?=some (d.rd (p+i)):=by simp [gT,h]
theorem tB {d d':Dk} {p:Int} {n:Nat} (h : ∀i:Nat,i<n→d'.rd (p+i)=d.rd (p+i)):gT d' p n=gT d p n:=by
 unfold gT
 exact List.map_congr_left fun i hi=>h i (List.mem_range.1 hi)
theorem Bj {d d':Dk} {p at' nu:Int} (h : ∀i:Int,0≤i→at'+i<2048→d'.rd (p+i)=d.rd (p+i)):jl d' p at' nu=jl d p at' nu:=by
 unfold jl
 by_cases h1:2048≤at'
 ·rw [if_pos h1,if_pos h1]
 ·rw [if_neg h1,if_neg h1]
  have h0:d'.rd p=d.rd p:=by simpa using h 0 (by omega) (by omega)
  rw [h0]
  split
  ·rename_i h2
   simp only [Bool.and_eq_true,decide_eq_true_eq] at h2
   have hof:=Mp h2.1
   rw [tB fun i hi=>h i (by omega) (by omega)]
  ·rfl
theorem DZ {d d':Dk} {p at' nu:Int} {r:Rcd} {k:Nat} (hw:jl d p at' nu=some (r,k)) (h : ∀i:Nat,i<k→d'.rd (p+i)=d.rd (p+i)):jl d' p at' nu=some (r,k):=by
 have hle:=uC hw
 unfold jl at hw ⊢
 split at hw
 ·cases hw
 ·rename_i h1
  rw [if_neg h1]
  have h0:d'.rd p=d.rd p:=by simpa using h 0 (by omega)
  rw [h0]
  split at hw
  ·rename_i h2
   rw [if_pos h2]
   have hk:(hdOf (d.rd p)).of.toNat=k:=by
    cases hg:getR (gT d p (hdOf (d.rd p)).of.toNat) with
    | none=>rw [hg] at hw;cases hw
    | some q=>rw [hg] at hw;simp at hw;exact hw.2
   rw [tB (d:=d) (d':=d') fun i hi=>h i (by omega)]
   exact hw
  ·cases hw
theorem Nd {d:Dk} {p:Int} {B:List (List UInt8)} (h : ∀i:Nat,i<B.length→d.rd (p+i)=B.getD i []):gT d p B.length=B:=by
 apply List.ext_getElem?
 intro i
 by_cases hi:i<B.length
 ·rw [E1 d p _ hi,h i hi,List.getElem?_eq_getElem hi]
  simp [List.getD,hi]
 ·rw [List.getElem?_eq_none (by simp;omega),List.getElem?_eq_none (by omega)]
theorem Fa {d:Dk} {p at' st nu:Int} {r:Rcd} (hI:ir r=true) (hh:kH st nu 0 (recN r)=true) (hroom:at'+recN r≤2048) (h : ∀i:Nat,i<recN r→d.rd (p+i)=(dM r st nu).getD i []):jl d p at' nu=some (r,recN r):=by
 have hn:=uU hI
 have hlen:=mf hI st nu
 have h0:(dM r st nu)[0]?=some (d.rd p):=by
  have:=h 0 (by omega)
  rw [List.getElem?_eq_getElem (by omega)]
  simp only [Int.natCast_zero,Int.add_zero] at this
  rw [this]
  simp [List.getD,show 0<(dM r st nu).length by omega]
 obtain ⟨e1,e2,_⟩:=pC hh h0 (by omega)
 unfold jl
 rw [if_neg (by omega),e1,e2,if_pos (by simp;omega)]
 have:(Hd.mk st nu ((0:Nat):Int) (recN r)).of.toNat=(dM r st nu).length:=by rw [hlen];rfl
 rw [this,Nd (by rw [hlen];exact h),Cq hI hh,hlen]
 rfl
theorem JK:mD zer=false:=by
 unfold mD zer
 rw [List.length_replicate]
 have:(hdOf (List.replicate 128 0)).st=0:=by decide
 unfold kH
 rw [this]
 rfl
theorem so {d:Dk} {p at' nu:Int} (h:d.rd p=zer):jl d p at' nu=none:=by
 unfold jl
 rw [h,JK]
 simp
def sumN:List Rcd→Nat
 | []=>0
 | r :: L=>recN r+sumN L
def chain (d:Dk) (p:Int):Int→Int→List Rcd→Prop
 | _,_,[]=>True
 | nu,at',r :: L=>jl d (p+at') at' nu=some (r,recN r)∧chain d p (nu+1) (at'+recN r) L
theorem CO {d d':Dk} {p:Int} : ∀(L:List Rcd) (nu at':Int),chain d p nu at' L→(∀q,p+at'≤q→q<p+at'+sumN L→d'.rd q=d.rd q)→chain d' p nu at' L:=by
 intro L
 induction L with
 | nil=>intro nu at' _ _;trivial
 | cons a L ih =>
  intro nu at' h hq
  simp only [sumN] at hq
  exact ⟨DZ h.1 fun i hi=>hq _ (by omega) (by omega),ih _ _ h.2 fun q h1 h2=>hq q (by omega) (by omega)⟩
theorem sD {d:Dk} {p nu most:Int} : ∀(L:List Rcd) (m:Nat) (at':Int) (n:Nat),chain d p (nu+n+1) at' L→jl d (p+(at'+sumN L)) (at'+sumN L) (nu+n+L.length+1)=none→(n:Int)+L.length<most→L.length<m→eC d p nu most m at' n=(L,at'+sumN L):=by
 intro L
 induction L with
 | nil =>
  intro m at' n _ h hm hl
  obtain ⟨m,rfl⟩ : ∃m',m=m'+1:=⟨m - 1,by simp at hl;omega⟩
  simp [sumN] at h
  unfold eC
  rw [if_pos (by simp at hm;exact hm),h]
  simp [sumN]
 | cons a L ih =>
  intro m at' n hc h hm hl
  obtain ⟨m,rfl⟩ : ∃m',m=m'+1:=⟨m - 1,by simp at hl;omega⟩
  simp only [List.length_cons] at h hm hl
  have h2:=ih m (at'+recN a) (n+1) (by have:=hc.2;rw [show nu+((n+1:Nat):Int)+1=nu+n+1+1 by omega];exact this)
   (by rw [show at'+recN a+sumN L=at'+(sumN (a :: L):Nat) by simp [sumN];omega,show nu+((n+1:Nat):Int)+L.length+1=nu+n+((L.length+1:Nat):Int)+1 by omega];exact h) (by omega) (by omega)
  unfold eC
  rw [if_pos (by omega),hc.1]
  simp only
  rw [h2]
  simp [sumN]
  omega
theorem Lo {d:Dk} {p nu most:Int} : ∀(m:Nat) (at':Int) (n:Nat),at'≤(eC d p nu most m at' n).2:=by
 intro m
 induction m with
 | zero=>intro at' n;exact Int.le_refl _
 | succ m ih =>
  intro at' n
  unfold eC
  split
  ·split
   ·rename_i r k h
    have:=ih (at'+k) (n+1)
    simp only
    omega
   ·exact Int.le_refl _
  ·exact Int.le_refl _
theorem Iy {d:Dk} {p nu most:Int} : ∀(L:List Rcd) (m:Nat) (at':Int) (n:Nat),chain d p (nu+n+1) at' L→(n:Int)+L.length≤most→L.length≤m → ∃M e,eC d p nu most m at' n=(L++M,e)∧at'+sumN L≤e:=by
 intro L
 induction L with
 | nil=>intro m at' n _ _ _;exact ⟨_,_,rfl,by simp [sumN];exact Lo m at' n⟩
 | cons a L ih =>
  intro m at' n hc hm hl
  obtain ⟨m,rfl⟩ : ∃m',m=m'+1:=⟨m - 1,by simp at hl;omega⟩
  simp only [List.length_cons] at hm hl
  obtain ⟨M,e,h2,h3⟩:=ih m (at'+recN a) (n+1) (by have:=hc.2;rw [show nu+((n+1:Nat):Int)+1=nu+n+1+1 by omega];exact this) (by omega) (by omega)
  refine ⟨M,e,?_,by simp [sumN];omega⟩
  unfold eC
  rw [if_pos (by omega),hc.1]
  simp only
  rw [h2]
  rfl
theorem Ed {d d':Dk} {p nu most:Int} (h : ∀q,p≤q→q<p+2048→d'.rd q=d.rd q) : ∀(m:Nat) (at':Int) (n:Nat),0≤at'→eC d' p nu most m at' n=eC d p nu most m at' n:=by
 intro m
 induction m with
 | zero=>intro at' n _;rfl
 | succ m ih =>
  intro at' n h0
  unfold eC
  rw [Bj (d:=d) (d':=d') fun i h1 h2=>h _ (by omega) (by omega)]
  split
  ·split
   ·rename_i r k hw
    rw [ih (at'+k) (n+1) (by omega)]
   ·rfl
  ·rfl
theorem Ov (d:Dk) (n:Nat):d.tw.can n=d.can n:=rfl
theorem KQ {d:Dk} (hlf : -1≤d.lf) {r:Rcd} (hI:ir r=true) (area at' nu q:Int):(d.app area at' nu r).rd q=if area * 2048+at'≤q∧q<area * 2048+at'+d.can (recN r) then (dM r d.st nu).getD (q - (area * 2048+at')).toNat [] else d.rd q:=by
 unfold Dk.app
 rw [N7 _ _ _ _ (show -1≤d.tw.lf from hlf),RY,Ov,mf hI]
theorem Qa (d:Dk) (area at' nu:Int) (r:Rcd):(d.app area at' nu r).st=d.st:=N6 0 _ _ _
theorem xJ {d:Dk} (hf:d.Fit) {area at' nu:Int} {r:Rcd} (h:appE d area at' nu r=0):(d.app area at' nu r).Fit∧(d.app area at' nu r).may=true∧d.may=true∧(0≤area∧area≤2∧0≤at'∧at'≤2048∧1≤d.st∧1≤nu∧nu<16777216)∧ir r=true∧at'+recN r≤2048∧kH d.st nu 0 (recN r)=true:=by
 unfold appE at h
 split at h
 ·rename_i hm
  split at h
  ·rename_i hg
   split at h
   ·rename_i hI
    split at h
    ·rename_i hr
     have hst:d.st<2147483648:=by
      have:=hm
      unfold Dk.may dOk dhOk at this
      simp at this
      omega
     have hn:=uU hI
     have hh:kH d.st nu 0 (recN r)=true:=by
      unfold kH
      simp
      omega
     have:=Ka (dM r d.st nu) d.tw (area * 2048+at') (Kj hf) (by rw [Ki,hm]) (by omega) (by rw [mf hI];omega) (Bf hI hh)
     exact ⟨this.1,this.2,hm,hg,hI,hr,hh⟩
    ·cases h
   ·cases h
  ·cases h
 ·cases h
theorem Ng {d:Dk} (h:d.dd=false) (h0:d.lf = -1) (area at' nu:Int) (r:Rcd):(d.app area at' nu r).lf = -1∧(d.app area at' nu r).dd=false:=KT _ _ _ h h0
theorem M9 {d:Dk} (h:d.dd=false) (h0:d.lf = -1) (n:Nat):d.can n=n:=by unfold Dk.can;rw [h,h0];simp
end Go.Proofs.Ytmjkpdknicjjgaa
