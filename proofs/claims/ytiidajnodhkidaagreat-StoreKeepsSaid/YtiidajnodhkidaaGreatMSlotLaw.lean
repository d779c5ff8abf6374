/-
  What is kept, and what is loaded: plain laws. No statement of a seat is proved here.
-/
import Derived.Test.YtiidajnodhkidaaGreatSlotFns
set_option linter.unusedVariables false
set_option linter.unusedSimpArgs false
set_option linter.unusedSectionVars false
set_option linter.unnecessarySimpa false
set_option maxRecDepth 100000
namespace Go.Proofs.YtiidajnodhkidaaGreat
open Go.Ab
structure Eqv (d e:Dk):Prop where
 rd : ∀q,d.rd q=e.rd q
 lf:d.lf=e.lf
 dd:d.dd=e.dd
 st:d.st=e.st
theorem Eqv.refl(d:Dk):Eqv d d:=⟨fun _=>rfl,rfl,rfl,rfl⟩
theorem Eqv.trans{a b c:Dk}(h:Eqv a b)(g:Eqv b c):Eqv a c:=⟨fun q=>(h.rd q).trans (g.rd q),h.lf.trans g.lf,h.dd.trans g.dd,h.st.trans g.st⟩
theorem rH{d e:Dk}(h:Eqv d e):d.dead=e.dead:=by unfold Dk.dead;rw[h.dd,h.lf]
theorem TL{d e:Dk}(h:Eqv d e)(q:Int)(b:List UInt8):Eqv (d.wr q b) (e.wr q b) :=
 ⟨fun r=>by rw[GA,GA,rH h,h.rd],by rw[Cd,Cd,rH h,h.lf],by rw[w6,w6,rH h],by rw[Gz,Gz,h.st]⟩
theorem Ku : ∀(B:List (List UInt8)) (d e:Dk) (q:Int),Eqv d e→Eqv (d.wrs q B) (e.wrs q B):=by
 intro B
 induction B with
 | nil=>intro d e q h;exact h
 | cons b B ih=>intro d e q h;exact ih _ _ _ (TL h q b)
theorem TM(d:Dk):Eqv d.tw d:=⟨GM d,rfl,rfl,rfl⟩
theorem Oe : ∀(B C:List (List UInt8)) (d:Dk) (q:Int),d.wrs q (B++C)=(d.wrs q B).wrs (q+B.length) C:=by
 intro B
 induction B with
 | nil=>intro C d q;simp[Dk.wrs]
 | cons b B ih =>
  intro C d q
  show(d.wr q b).wrs (q+1) (B++C)=_
  rw[ih,show q+1+(B.length:Int)=q+((b :: B).length:Nat) by simp;omega]
  rfl
theorem B0 : ∀(L:List Rcd)(d:Dk)(area at' nu:Int),L.all ej=true→Eqv (uD d area at' nu L) (d.wrs (area * 2048+at') (blks d.st nu L)):=by
 intro L
 induction L with
 | nil=>intro d area at' nu _;exact Eqv.refl d
 | cons r L ih =>
  intro d area at' nu hI
  simp only[List.all_cons,Bool.and_eq_true]at hI
  have h1:=ih (d.app area at' nu r) area (at'+recN r) (nu+1) hI.2
  rw[sA]at h1
  refine h1.trans ?_
  have e:d.wrs (area * 2048+at') (blks d.st nu (r :: L))=(d.wrs (area * 2048+at') (dF r d.st nu)).wrs (area * 2048+(at'+recN r)) (blks d.st (nu+1) L):=by
   show d.wrs _ (dF r d.st nu++blks d.st (nu+1) L)=_
   rw[Oe,fc hI.1,show area * 2048+at'+(recN r:Int)=area * 2048+(at'+recN r) by omega]
  rw[e]
  exact Ku _ _ _ _ (Ku _ _ _ _ (TM d))
theorem B8{L:List Rcd}(h:L.all ej=true) : ∀r∈L,ej r=true:=List.all_eq_true.1 h
def Full(d:Dk)(w:Int):Prop:=d.dd=false∧(d.lf = -1∨w≤d.lf)
section
variable{d:Dk}{L:List Rcd}(hI:L.all ej=true)
include hI
theorem Db(h:Full d (sumN L+1))(h0 : -1≤d.lf):(∀q,(eH d L).rd q=if q=6144+(d.cur.1+1) % 2 then kR (d.cur.1+1) L.length else
 if (1+(d.cur.1+1) % 2) * 2048≤q∧q<(1+(d.cur.1+1) % 2) * 2048+sumN L then (blks d.st 1 L).getD (q - (1+(d.cur.1+1) % 2) * 2048).toNat [] else d.rd q)∧(eH d L).dd=false∧(eH d L).st=d.st ∧
 (d.lf = -1→(eH d L).lf = -1):=by
 obtain⟨h1,h2⟩:=h
 have he:=B0 L d (1+(d.cur.1+1) % 2) 0 1 hI
 rw[Int.add_zero]at he
 have hlen:=BY d.st L 1 (B8 hI)
 have hcan:d.can (sumN L)=sumN L:=by
  unfold Dk.can
  rw[h1]
  simp
  intro;omega
 have hdead:(uD d (1+(d.cur.1+1) % 2) 0 1 L).dead=false:=by
  rw[rH he]
  unfold Dk.dead
  rcases h2 with h2 | h2
  ·have:=uL (blks d.st 1 L) d ((1+(d.cur.1+1) % 2) * 2048) h1 h2
   rw[this.1,this.2];rfl
  ·have:=Ap (blks d.st 1 L) d ((1+(d.cur.1+1) % 2) * 2048) h1 (by omega)
   rw[this.1,this.2,hlen,hcan]
   simp
   omega
 refine⟨fun q=>?_,by unfold eH;rw[w6,hdead],by unfold eH;rw[Gz,he.st,Fx 0],fun hl=>?_⟩
 ·unfold eH
  rw[GA,hdead,he.rd,Fy _ _ _ _ h0,hlen,hcan]
  by_cases hq:q=6144+(d.cur.1+1) % 2
  ·rw[if_pos ⟨rfl,hq⟩,if_pos hq]
  ·rw[if_neg (fun h=>hq h.2),if_neg hq]
 ·unfold eH
  have:=uL (blks d.st 1 L) d ((1+(d.cur.1+1) % 2) * 2048) h1 hl
  rw[Cd,hdead,he.lf,this.1]
  rfl
theorem JW(h1:d.dd=false)(h2:0≤d.lf)(h3:d.lf≤sumN L):(∀q,¬((1+(d.cur.1+1) % 2) * 2048≤q∧q<(1+(d.cur.1+1) % 2) * 2048+sumN L)→(eH d L).rd q=d.rd q)∧(eH d L).dd=true∧(eH d L).st=d.st:=by
 have he:=B0 L d (1+(d.cur.1+1) % 2) 0 1 hI
 rw[Int.add_zero]at he
 have hlen:=BY d.st L 1 (B8 hI)
 have hcan:d.can (sumN L)≤sumN L:=by
  unfold Dk.can
  split
  ·omega
  ·split<;>omega
 have hdead:(uD d (1+(d.cur.1+1) % 2) 0 1 L).dead=true:=by
  rw[rH he]
  unfold Dk.dead
  have:=Ap (blks d.st 1 L) d ((1+(d.cur.1+1) % 2) * 2048) h1 h2
  have hc:d.can (sumN L)=min (sumN L) d.lf.toNat:=by
   unfold Dk.can
   rw[h1]
   simp
   intro;omega
  rw[hlen,hc]at this
  rw[this.1,this.2]
  simp
  omega
 refine⟨fun q hq=>?_,by unfold eH;rw[w6,hdead],by unfold eH;rw[Gz,he.st,Fx 0]⟩
 unfold eH
 rw[GA,hdead,he.rd,Fy _ _ _ _ (by omega),hlen,if_neg (by simp),if_neg (by omega)]
end
structure Has (d:Dk) (g:Int) (L:List Rcd):Prop where
 cur:d.cur=(g,(L.length:Int))
 ch:chain d ((1+g % 2) * 2048) 1 0 L
 sum:sumN L≤2048
theorem Lu{d:Dk}{p nu most:Int} : ∀(L:List Rcd)(m:Nat)(at':Int)(n:Nat),chain d p (nu+n+1) at' L→(n:Int)+L.length=most→L.length<m→(fu d p nu most m at' n).1=L:=by
 intro L
 induction L with
 | nil =>
  intro m at' n _ hm hl
  obtain⟨m,rfl⟩ : ∃m',m=m'+1:=⟨m - 1,by simp at hl;omega⟩
  unfold fu
  rw[if_neg (by simp at hm;omega)]
 | cons a L ih =>
  intro m at' n hc hm hl
  obtain⟨m,rfl⟩ : ∃m',m=m'+1:=⟨m - 1,by simp at hl;omega⟩
  simp only[List.length_cons]at hm hl
  have h2:=ih m (at'+recN a) (n+1) (by have:=hc.2;rw[show nu+((n+1:Nat):Int)+1=nu+n+1+1 by omega];exact this) (by omega) (by omega)
  unfold fu
  rw[if_pos (by omega),hc.1]
  simp only
  rw[h2]
theorem PX{d:Dk}{g:Int}{L:List Rcd}(h:Has d g L):d.lst=L:=by
 have:=uh L 1 0 h.ch
 have hs:=h.sum
 unfold Dk.lst
 rw[h.cur]
 exact Lu (nu:=0) L 2049 0 0 (by simpa using h.ch) (by simp) (by omega)
theorem xR{d e:Dk}{g:Int}{L:List Rcd}(h:Has d g L)(hrd : ∀q,2048≤q→e.rd q=d.rd q)(hg:0≤g):Has e g L:=by
 refine⟨?_,k9 L 1 0 h.ch fun q h1 h2=>hrd q (by omega),h.sum⟩
 have:e.cur=d.cur:=by
  unfold Dk.cur Dk.mark
  rw[hrd _ (by omega),hrd _ (by omega)]
 rw[this,h.cur]
theorem F8(slot:Int):rQ zer slot=(0,0):=by
 unfold rQ
 have:genB zer=0:=by decide
 rw[if_neg (by rw[this];omega)]
theorem J8(n:Int):Has (fresh n) 0 []:=by
 refine⟨?_,trivial,by simp[sumN]⟩
 unfold Dk.cur Dk.mark
 rw[BE,BE,F8,F8]
 rfl
theorem Mp{g n:Int}(hg:1≤g∧g<2147483648)(hn:0≤n∧n≤16777215):rQ (kR g n) (g % 2)=(g,n):=by
 have e1:genB (kR g n)=g:=by
  have:(((kR g n).drop 1).take 4)=be 4 g:=by simp[kR,be_4,be_3]
  unfold genB
  rw[this]
  exact rX (by omega) (by omega)
 have e2:numB (kR g n)=n:=by
  have:(((kR g n).drop 5).take 3)=be 3 n:=by simp[kR,be_4,be_3]
  unfold numB
  rw[this]
  exact rX (by omega) (by omega)
 unfold rQ
 rw[e1,e2,if_pos ⟨by omega,by omega,rfl,rfl⟩]
section
variable{d:Dk}{L:List Rcd}(hI:L.all ej=true)(hs:sumN L≤2048)(hst:1≤d.st∧d.st<2147483648)(hg:d.cur.1+1<2147483648)(h48:L.length≤2048)
include hI hs hst hg h48
theorem PW(h:Full d (sumN L+1))(h0 : -1≤d.lf):Has (eH d L) (d.cur.1+1) L:=by
 obtain⟨hrd,_,_,_⟩:=Db hI h h0
 have hle:=Aa d
 have hlen:=BY d.st L 1 (B8 hI)
 refine⟨?_,?_,hs⟩
 ·have hm:=Mp (g:=d.cur.1+1) (n:=L.length) (by omega) (by omega)
  have hc0:(d.mark 0).1≤d.cur.1∧(d.mark 1).1≤d.cur.1:=by
   unfold Dk.cur
   split<;>omega
  rcases(show(d.cur.1+1) % 2=0∨(d.cur.1+1) % 2=1 by omega)with e | e
  ·rw[e]at hrd hm
   have m0:(eH d L).mark 0=(d.cur.1+1,(L.length:Int)):=by
    unfold Dk.mark
    rw[hrd,if_pos rfl];exact hm
   have m1:(eH d L).mark 1=d.mark 1:=by
    unfold Dk.mark
    rw[hrd,if_neg (by omega),if_neg (by omega)]
   unfold Dk.cur at hc0 ⊢
   rw[m0,m1]
   rw[if_pos]
   ·rfl
   show(d.mark 1).1<(if (d.mark 1).1<(d.mark 0).1 then d.mark 0 else d.mark 1).1+1
   omega
  ·rw[e]at hrd hm
   have m1:(eH d L).mark 1=(d.cur.1+1,(L.length:Int)):=by
    unfold Dk.mark
    rw[hrd,if_pos rfl];exact hm
   have m0:(eH d L).mark 0=d.mark 0:=by
    unfold Dk.mark
    rw[hrd,if_neg (by omega),if_neg (by omega)]
   unfold Dk.cur at hc0 ⊢
   rw[m0,m1]
   rw[if_neg]
   ·rfl
   show ¬(if (d.mark 1).1<(d.mark 0).1 then d.mark 0 else d.mark 1).1+1<(d.mark 0).1
   omega
 ·have key : ∀(A:List Rcd)(nu a0:Int),1≤nu→nu+A.length≤16777216→(∀r∈A,ej r=true)→0≤a0→a0+sumN A≤2048 →
   (∀i:Nat,i<sumN A→(eH d L).rd ((1+(d.cur.1+1) % 2) * 2048+(a0+i))=(blks d.st nu A).getD i [])→chain (eH d L) ((1+(d.cur.1+1) % 2) * 2048) nu a0 A:=by
   intro A
   induction A with
   | nil=>intros;trivial
   | cons r A ih =>
    intro nu a0 h1 h2 hIr h0 hr hd
    have hI1:=hIr r (List.mem_cons_self ..)
    have hn:=m9 hI1
    simp only[sumN,List.length_cons]at hr hd h2
    have hl1:=fc hI1 d.st nu
    refine⟨Cf hI1 (st:=d.st) (by unfold kZ;simp;omega) (by omega) fun i hi=>?_,ih (nu+1) (a0+recN r) (by omega) (by omega) (fun x hx=>hIr x (List.mem_cons_of_mem _ hx)) (by omega) (by omega) fun i hi=>?_⟩
    ·rw[Int.add_assoc,hd i (by omega)]
     exact Kh _ (by omega)
    ·rw[show a0+(recN r:Int)+i=a0+((recN r+i:Nat):Int) by omega,hd _ (by omega)]
     show(dF r d.st nu++blks d.st (nu+1) A).getD (recN r+i) []=_
     rw[←hl1]
     exact HC _
  refine key L 1 0 (by omega) (by omega) (B8 hI) (by omega) (by omega) fun i hi=>?_
  rw[hrd,if_neg (by omega),if_pos (by omega)]
  congr 1
  omega
end
end Go.Proofs.YtiidajnodhkidaaGreat
namespace Go.Proofs.YtiidajnodhkidaaGreat
open Go.Ab
attribute [local simp] ct bK bO bN keep thr cC bD bP eE eD cN cB aV dk List.take_of_length_le
theorem F7{d:Dk}(h:d.may=true):d.st<2147483648 ∧ -1≤d.lf:=by
 unfold Dk.may dOk dhOk at h
 simp at h
 omega
theorem CO{L:List Rcd}(h:lM L=0):L.all ej=true∧sumN L≤2048∧L.length≤2048:=by
 unfold lM at h
 split at h
 ·cases h
 ·split at h
  ·rename_i h2
   split at h
   ·rename_i h3;exact⟨h2,h3,by omega⟩
   ·cases h
  ·cases h
theorem EJ{d:Dk}(hf:d.Fit)(hm:d.may=true)(hst:1≤d.st){L:List Rcd}(hr:lM L=0):(eH d L).Fit∧(eH d L).may=true:=by
 obtain⟨h1,h2,h3⟩:=CO hr
 have hle:=Aa d
 have hap:=KO L d (1+(d.cur.1+1) % 2) 0 1 hf hm hst (by omega) (by omega) (by omega) (by omega) (by omega) h1
 exact⟨zI hap.1 hap.2.1 (by omega) (qN _ _),Cc hap.2.1 (by omega) (qN _ _)⟩
end Go.Proofs.YtiidajnodhkidaaGreat
