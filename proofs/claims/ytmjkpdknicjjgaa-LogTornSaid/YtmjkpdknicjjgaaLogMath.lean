/-
  Which records are there, by place: plain laws. No statement of a seat is proved here.
-/
import Derived.Test.YtmjkpdknicjjgaaLogAll
set_option linter.unusedVariables false
set_option linter.unusedSimpArgs false
set_option linter.unusedSectionVars false
set_option linter.unnecessarySimpa false
set_option maxRecDepth 100000
namespace Go.Proofs.Ytmjkpdknicjjgaa
open Go.Ab
theorem yg (d:Dk) (p:Int) (n:Nat) {i:Nat} (h:i<n):(gS d p n)[i]?=some (d.rd (p+i)):=by simp [gS,h]
theorem tP {d d':Dk} {p:Int} {n:Nat} (h : ∀i:Nat,i<n→d'.rd (p+i)=d.rd (p+i)):gS d' p n=gS d p n:=by
 unfold gS
 exact List.map_congr_left fun i hi=>h i (List.mem_range.1 hi)
theorem BK {d d':Dk} {p at' nu:Int} (h : ∀i:Int,0≤i→at'+i<2048→d'.rd (p+i)=d.rd (p+i)):gl d' p at' nu=gl d p at' nu:=by
 unfold gl
 by_cases h1:2048≤at'
 ·rw [if_pos h1,if_pos h1]
 ·rw [if_neg h1,if_neg h1]
  have h0:d'.rd p=d.rd p:=by simpa using h 0 (by omega) (by omega)
  rw [h0]
  split
  ·rename_i h2
   simp only [Bool.and_eq_true,decide_eq_true_eq] at h2
   have hof:=Nd h2.1
   rw [tP fun i hi=>h i (by omega) (by omega)]
  ·rfl
theorem Eo {d d':Dk} {p at' nu:Int} {r:Rcd} {k:Nat} (hw:gl d p at' nu=some (r,k)) (h : ∀i:Nat,i<k→d'.rd (p+i)=d.rd (p+i)):gl d' p at' nu=some (r,k):=by
 have hle:=uT hw
 unfold gl at hw ⊢
 split at hw
 ·cases hw
 ·rename_i h1
  rw [if_neg h1]
  have h0:d'.rd p=d.rd p:=by simpa using h 0 (by omega)
  rw [h0]
  split at hw
  ·rename_i h2
   rw [if_pos h2]
   have hk:(hdOf (d.rd p)).of.toNat=k:=by
    cases hg:getR (gS d p (hdOf (d.rd p)).of.toNat) with
    | none=>rw [hg] at hw;cases hw
    | some q=>rw [hg] at hw;simp at hw;exact hw.2
   rw [tP (d:=d) (d':=d') fun i hi=>h i (by omega)]
   exact hw
  ·cases hw
theorem NY {d:Dk} {p:Int} {B:List (List UInt8)} (h : ∀i:Nat,i<B.length→d.rd (p+i)=B.getD i []):gS d p B.length=B:=by
 apply List.ext_getElem?
 intro i
 by_cases hi:i<B.length
 ·rw [yg d p _ hi,h i hi,List.getElem?_eq_getElem hi]
  simp [List.getD,hi]
 ·rw [List.getElem?_eq_none (by simp;omega),List.getElem?_eq_none (by omega)]
theorem uS {d:Dk} {p at' st nu:Int} {r:Rcd} (hI:eK r=true) (hh:jA st nu 0 (recN r)=true) (hroom:at'+recN r≤2048) (h : ∀i:Nat,i<recN r→d.rd (p+i)=(cG r st nu).getD i []):gl d p at' nu=some (r,recN r):=by
 have hn:=jk hI
 have hlen:=eu hI st nu
 have h0:(cG r st nu)[0]?=some (d.rd p):=by
  have:=h 0 (by omega)
  rw [List.getElem?_eq_getElem (by omega)]
  simp only [Int.natCast_zero,Int.add_zero] at this
  rw [this]
  simp [List.getD,show 0<(cG r st nu).length by omega]
 obtain ⟨e1,e2,_⟩:=jw hh h0 (by omega)
 unfold gl
 rw [if_neg (by omega),e1,e2,if_pos (by simp;omega)]
 have:(Hd.mk st nu ((0:Nat):Int) (recN r)).of.toNat=(cG r st nu).length:=by rw [hlen];rfl
 rw [this,NY (by rw [hlen];exact h),CP hI hh,hlen]
 rfl
theorem D3:kf zer=false:=by
 unfold kf zer
 rw [List.length_replicate]
 have:(hdOf (List.replicate 128 0)).st=0:=by decide
 unfold jA
 rw [this]
 rfl
theorem pZ {d:Dk} {p at' nu:Int} (h:d.rd p=zer):gl d p at' nu=none:=by
 unfold gl
 rw [h,D3]
 simp
theorem En {d:Dk} {p at' st nu nu':Int} {r:Rcd} (hI:eK r=true) (hh:jA st nu 0 (recN r)=true) {t:Nat} (ht:t<recN r) (h : ∀i:Nat,i<t→d.rd (p+i)=(cG r st nu).getD i []) (hz:d.rd (p+t)=zer):gl d p at' nu'=none:=by
 have hn:=jk hI
 have hlen:=eu hI st nu
 cases t with
 | zero=>exact pZ (by simpa using hz)
 | succ t =>
  have h0:(cG r st nu)[0]?=some (d.rd p):=by
   have:=h 0 (by omega)
   rw [List.getElem?_eq_getElem (by omega)]
   simp only [Int.natCast_zero,Int.add_zero] at this
   rw [this]
   simp [List.getD,show 0<(cG r st nu).length by omega]
  obtain ⟨e1,e2,_⟩:=jw hh h0 (by omega)
  unfold gl
  split
  ·rfl
  ·rw [e1,e2]
   split
   ·have:(Hd.mk st nu ((0:Nat):Int) (recN r)).of.toNat=recN r:=rfl
    rw [this]
    cases hg:getR (gS d p (recN r)) with
    | none=>rfl
    | some q =>
     exfalso
     have:=Fb hg (t+1) _ (yg d p (recN r) (by omega))
     rw [hz,qv] at this
     have h4:(hdOf zer).of=0:=by decide
     rw [this] at h4
     simp at h4
     omega
   ·rfl
theorem BJ {d:Dk} {p at' nu:Int} (h:kf (d.rd p)=true→(hdOf (d.rd p)).nu≠nu):gl d p at' nu=none:=by
 unfold gl
 split
 ·rfl
 ·split
  ·rename_i h2
   simp only [Bool.and_eq_true,decide_eq_true_eq] at h2
   exact absurd h2.2.1 (h h2.1)
  ·rfl
def sumN:List Rcd→Nat
 | []=>0
 | r :: L=>recN r+sumN L
def chain (d:Dk) (p:Int):Int→Int→List Rcd→Prop
 | _,_,[]=>True
 | nu,at',r :: L=>gl d (p+at') at' nu=some (r,recN r)∧chain d p (nu+1) (at'+recN r) L
theorem uA (L M:List Rcd):sumN (L++M)=sumN L+sumN M:=by
 induction L with
 | nil=>simp [sumN]
 | cons r L ih=>simp [sumN,ih];omega
theorem Fo {d:Dk} {p:Int} {r:Rcd} : ∀(L:List Rcd) (nu at':Int),chain d p nu at' L→gl d (p+(at'+sumN L)) (at'+sumN L) (nu+L.length)=some (r,recN r)→chain d p nu at' (L++[r]):=by
 intro L
 induction L with
 | nil=>intro nu at' _ h;exact ⟨by simpa [sumN] using h,trivial⟩
 | cons a L ih =>
  intro nu at' h hw
  refine ⟨h.1,ih _ _ h.2 ?_⟩
  rw [show at'+recN a+sumN L=at'+(sumN (a :: L):Nat) by simp [sumN];omega,show nu+1+L.length=nu+((a :: L).length:Nat) by simp;omega]
  exact hw
theorem wi {d d':Dk} {p:Int} : ∀(L:List Rcd) (nu at':Int),chain d p nu at' L→(∀q,p+at'≤q→q<p+at'+sumN L→d'.rd q=d.rd q)→chain d' p nu at' L:=by
 intro L
 induction L with
 | nil=>intro nu at' _ _;trivial
 | cons a L ih =>
  intro nu at' h hq
  simp only [sumN] at hq
  exact ⟨Eo h.1 fun i hi=>hq _ (by omega) (by omega),ih _ _ h.2 fun q h1 h2=>hq q (by omega) (by omega)⟩
theorem qc {d:Dk} {p nu most:Int} : ∀(L:List Rcd) (m:Nat) (at':Int) (n:Nat),chain d p (nu+n+1) at' L→gl d (p+(at'+sumN L)) (at'+sumN L) (nu+n+L.length+1)=none→(n:Int)+L.length<most→L.length<m→gY d p nu most m at' n=(L,at'+sumN L):=by
 intro L
 induction L with
 | nil =>
  intro m at' n _ h hm hl
  obtain ⟨m,rfl⟩ : ∃m',m=m'+1:=⟨m - 1,by simp at hl;omega⟩
  simp [sumN] at h
  unfold gY
  rw [if_pos (by simp at hm;exact hm),h]
  simp [sumN]
 | cons a L ih =>
  intro m at' n hc h hm hl
  obtain ⟨m,rfl⟩ : ∃m',m=m'+1:=⟨m - 1,by simp at hl;omega⟩
  simp only [List.length_cons] at h hm hl
  have h2:=ih m (at'+recN a) (n+1) (by have:=hc.2;rw [show nu+((n+1:Nat):Int)+1=nu+n+1+1 by omega];exact this)
   (by rw [show at'+recN a+sumN L=at'+(sumN (a :: L):Nat) by simp [sumN];omega,show nu+((n+1:Nat):Int)+L.length+1=nu+n+((L.length+1:Nat):Int)+1 by omega];exact h) (by omega) (by omega)
  unfold gY
  rw [if_pos (by omega),hc.1]
  simp only
  rw [h2]
  simp [sumN]
  omega
theorem K1 (d:Dk) (n:Nat):d.tw.can n=d.can n:=rfl
theorem Iu {d:Dk} (hlf : -1≤d.lf) {r:Rcd} (hI:eK r=true) (area at' nu q:Int):(d.app area at' nu r).rd q=if area * 2048+at'≤q∧q<area * 2048+at'+d.can (recN r) then (cG r d.st nu).getD (q - (area * 2048+at')).toNat [] else d.rd q:=by
 unfold Dk.app
 rw [OT _ _ _ _ (show -1≤d.tw.lf from hlf),SD,K1,eu hI]
theorem It (d:Dk) (area at' nu:Int) (r:Rcd):(d.app area at' nu r).st=d.st:=OS 0 _ _ _
theorem yj {d:Dk} (hf:d.Fit) {area at' nu:Int} {r:Rcd} (h:appE d area at' nu r=0):(d.app area at' nu r).Fit∧(d.app area at' nu r).may=true∧d.may=true∧(0≤area∧area≤2∧0≤at'∧at'≤2048∧1≤d.st∧1≤nu∧nu<16777216)∧eK r=true∧at'+recN r≤2048∧jA d.st nu 0 (recN r)=true:=by
 unfold appE at h
 split at h
 ·rename_i hm
  split at h
  ·rename_i hg
   split at h
   ·rename_i hI
    split at h
    ·rename_i hr
     have hst:d.st<2147483648:=by
      have:=hm
      unfold Dk.may dOk dhOk at this
      simp at this
      omega
     have hn:=jk hI
     have hh:jA d.st nu 0 (recN r)=true:=by
      unfold jA
      simp
      omega
     have:=KR (cG r d.st nu) d.tw (area * 2048+at') (K0 hf) (by rw [KZ,hm]) (by omega) (by rw [eu hI];omega) (BE hI hh)
     exact ⟨this.1,this.2,hm,hg,hI,hr,hh⟩
    ·cases h
   ·cases h
  ·cases h
 ·cases h
theorem Iv {d:Dk} (h:d.dd=false) (h0:d.lf = -1) (area at' nu:Int) (r:Rcd):(d.app area at' nu r).lf = -1∧(d.app area at' nu r).dd=false:=LD _ _ _ h h0
theorem Ig {d:Dk} (h:d.dd=false) (h0:d.lf = -1) (n:Nat):d.can n=n:=by unfold Dk.can;rw [h,h0];simp
end Go.Proofs.Ytmjkpdknicjjgaa
