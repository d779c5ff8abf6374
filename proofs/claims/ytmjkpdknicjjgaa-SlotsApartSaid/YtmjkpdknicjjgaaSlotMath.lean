/-
  What is kept, and what is loaded: plain laws. No statement of a seat is proved here.
-/
import Derived.Test.YtmjkpdknicjjgaaSlotFns
set_option linter.unusedVariables false
set_option linter.unusedSimpArgs false
set_option linter.unusedSectionVars false
set_option linter.unnecessarySimpa false
set_option maxRecDepth 100000
namespace Go.Proofs.Ytmjkpdknicjjgaa
open Go.Ab
structure Eqv (d e:Dk):Prop where
 rd : ∀q,d.rd q=e.rd q
 lf:d.lf=e.lf
 dd:d.dd=e.dd
 st:d.st=e.st
theorem Eqv.refl (d:Dk):Eqv d d:=⟨fun _=>rfl,rfl,rfl,rfl⟩
theorem Eqv.trans {a b c:Dk} (h:Eqv a b) (g:Eqv b c):Eqv a c:=⟨fun q=>(h.rd q).trans (g.rd q),h.lf.trans g.lf,h.dd.trans g.dd,h.st.trans g.st⟩
theorem ve {d e:Dk} (h:Eqv d e):d.dead=e.dead:=by unfold Dk.dead;rw [h.dd,h.lf]
theorem Q5 {d e:Dk} (h:Eqv d e) (q:Int) (b:List UInt8):Eqv (d.wr q b) (e.wr q b) :=
 ⟨fun r=>by rw [Gc,Gc,ve h,h.rd],by rw [Cr,Cr,ve h,h.lf],by rw [AD,AD,ve h],by rw [Ji,Ji,h.st]⟩
theorem IF : ∀(B:List (List UInt8)) (d e:Dk) (q:Int),Eqv d e→Eqv (d.wrs q B) (e.wrs q B):=by
 intro B
 induction B with
 | nil=>intro d e q h;exact h
 | cons b B ih=>intro d e q h;exact ih _ _ _ (Q5 h q b)
theorem Q6 (d:Dk):Eqv d.tw d:=⟨To d,rfl,rfl,rfl⟩
theorem L9 : ∀(B C:List (List UInt8)) (d:Dk) (q:Int),d.wrs q (B++C)=(d.wrs q B).wrs (q+B.length) C:=by
 intro B
 induction B with
 | nil=>intro C d q;simp [Dk.wrs]
 | cons b B ih =>
  intro C d q
  show (d.wr q b).wrs (q+1) (B++C)=_
  rw [ih,show q+1+(B.length:Int)=q+((b :: B).length:Nat) by simp;omega]
  rfl
theorem K9 : ∀(L:List Rcd) (d:Dk) (area at' nu:Int),L.all eY=true→Eqv (uT d area at' nu L) (d.wrs (area * 2048+at') (blks d.st nu L)):=by
 intro L
 induction L with
 | nil=>intro d area at' nu _;exact Eqv.refl d
 | cons r L ih =>
  intro d area at' nu hI
  simp only [List.all_cons,Bool.and_eq_true] at hI
  have h1:=ih (d.app area at' nu r) area (at'+recN r) (nu+1) hI.2
  rw [EP] at h1
  refine h1.trans ?_
  have e:d.wrs (area * 2048+at') (blks d.st nu (r :: L))=(d.wrs (area * 2048+at') (dt r d.st nu)).wrs (area * 2048+(at'+recN r)) (blks d.st (nu+1) L):=by
   show d.wrs _ (dt r d.st nu++blks d.st (nu+1) L)=_
   rw [L9,jo hI.1,show area * 2048+at'+(recN r:Int)=area * 2048+(at'+recN r) by omega]
  rw [e]
  exact IF _ _ _ _ (IF _ _ _ _ (Q6 d))
theorem DX {L:List Rcd} (h:L.all eY=true) : ∀r∈L,eY r=true:=List.all_eq_true.1 h
def Full (d:Dk) (w:Int):Prop:=d.dd=false∧(d.lf = -1∨w≤d.lf)
section
variable {d:Dk} {L:List Rcd} (hI:L.all eY=true)
include hI
theorem BM (h:Full d (sumN L+1)) (h0 : -1≤d.lf):(∀q,(iP d L).rd q=if q=6144+(d.cur.1+1) % 2 then ke (d.cur.1+1) L.length else
 if (1+(d.cur.1+1) % 2) * 2048≤q∧q<(1+(d.cur.1+1) % 2) * 2048+sumN L then (blks d.st 1 L).getD (q - (1+(d.cur.1+1) % 2) * 2048).toNat [] else d.rd q)∧(iP d L).dd=false∧(iP d L).st=d.st ∧
 (d.lf = -1→(iP d L).lf = -1):=by
 obtain ⟨h1,h2⟩:=h
 have he:=K9 L d (1+(d.cur.1+1) % 2) 0 1 hI
 rw [Int.add_zero] at he
 have hlen:=EO d.st L 1 (DX hI)
 have hcan:d.can (sumN L)=sumN L:=by
  unfold Dk.can
  rw [h1]
  simp
  intro;omega
 have hdead:(uT d (1+(d.cur.1+1) % 2) 0 1 L).dead=false:=by
  rw [ve he]
  unfold Dk.dead
  rcases h2 with h2 | h2
  ·have:=Gb (blks d.st 1 L) d ((1+(d.cur.1+1) % 2) * 2048) h1 h2
   rw [this.1,this.2];rfl
  ·have:=Jg (blks d.st 1 L) d ((1+(d.cur.1+1) % 2) * 2048) h1 (by omega)
   rw [this.1,this.2,hlen,hcan]
   simp
   omega
 refine ⟨fun q=>?_,by unfold iP;rw [AD,hdead],by unfold iP;rw [Ji,he.st,Lg 0],fun hl=>?_⟩
 ·unfold iP
  rw [Gc,hdead,he.rd,Pv _ _ _ _ h0,hlen,hcan]
  by_cases hq:q=6144+(d.cur.1+1) % 2
  ·rw [if_pos ⟨rfl,hq⟩,if_pos hq]
  ·rw [if_neg (fun h=>hq h.2),if_neg hq]
 ·unfold iP
  have:=Gb (blks d.st 1 L) d ((1+(d.cur.1+1) % 2) * 2048) h1 hl
  rw [Cr,hdead,he.lf,this.1]
  rfl
end
structure Has (d:Dk) (g:Int) (L:List Rcd):Prop where
 cur:d.cur=(g,(L.length:Int))
 ch:chain d ((1+g % 2) * 2048) 1 0 L
 sum:sumN L≤2048
theorem JE {d:Dk} {p nu most:Int} : ∀(L:List Rcd) (m:Nat) (at':Int) (n:Nat),chain d p (nu+n+1) at' L→(n:Int)+L.length=most→L.length<m→(iG d p nu most m at' n).1=L:=by
 intro L
 induction L with
 | nil =>
  intro m at' n _ hm hl
  obtain ⟨m,rfl⟩ : ∃m',m=m'+1:=⟨m - 1,by simp at hl;omega⟩
  unfold iG
  rw [if_neg (by simp at hm;omega)]
 | cons a L ih =>
  intro m at' n hc hm hl
  obtain ⟨m,rfl⟩ : ∃m',m=m'+1:=⟨m - 1,by simp at hl;omega⟩
  simp only [List.length_cons] at hm hl
  have h2:=ih m (at'+recN a) (n+1) (by have:=hc.2;rw [show nu+((n+1:Nat):Int)+1=nu+n+1+1 by omega];exact this) (by omega) (by omega)
  unfold iG
  rw [if_pos (by omega),hc.1]
  simp only
  rw [h2]
theorem NI {d:Dk} {g:Int} {L:List Rcd} (h:Has d g L):d.lst=L:=by
 have:=EL L 1 0 h.ch
 have hs:=h.sum
 unfold Dk.lst
 rw [h.cur]
 exact JE (nu:=0) L 2049 0 0 (by simpa using h.ch) (by simp) (by omega)
theorem Ep (slot:Int):qU zer slot=(0,0):=by
 unfold qU
 have:genB zer=0:=by decide
 rw [if_neg (by rw [this];omega)]
theorem Ii (n:Int):Has (fresh n) 0 []:=by
 refine ⟨?_,trivial,by simp [sumN]⟩
 unfold Dk.cur Dk.mark
 rw [EA,EA,Ep,Ep]
 rfl
theorem Ku {g n:Int} (hg:1≤g∧g<2147483648) (hn:0≤n∧n≤16777215):qU (ke g n) (g % 2)=(g,n):=by
 have e1:genB (ke g n)=g:=by
  have:(((ke g n).drop 1).take 4)=be 4 g:=by simp [ke,be_4,be_3]
  unfold genB
  rw [this]
  exact q5 (by omega) (by omega)
 have e2:numB (ke g n)=n:=by
  have:(((ke g n).drop 5).take 3)=be 3 n:=by simp [ke,be_4,be_3]
  unfold numB
  rw [this]
  exact q5 (by omega) (by omega)
 unfold qU
 rw [e1,e2,if_pos ⟨by omega,by omega,rfl,rfl⟩]
section
variable {d:Dk} {L:List Rcd} (hI:L.all eY=true) (hs:sumN L≤2048) (hst:1≤d.st∧d.st<2147483648) (hg:d.cur.1+1<2147483648) (h48:L.length≤2048)
include hI hs hst hg h48
theorem NH (h:Full d (sumN L+1)) (h0 : -1≤d.lf):Has (iP d L) (d.cur.1+1) L:=by
 obtain ⟨hrd,_,_,_⟩:=BM hI h h0
 have hle:=BZ d
 have hlen:=EO d.st L 1 (DX hI)
 refine ⟨?_,?_,hs⟩
 ·have hm:=Ku (g:=d.cur.1+1) (n:=L.length) (by omega) (by omega)
  have hc0:(d.mark 0).1≤d.cur.1∧(d.mark 1).1≤d.cur.1:=by
   unfold Dk.cur
   split<;>omega
  rcases (show (d.cur.1+1) % 2=0∨(d.cur.1+1) % 2=1 by omega) with e | e
  ·rw [e] at hrd hm
   have m0:(iP d L).mark 0=(d.cur.1+1,(L.length:Int)):=by
    unfold Dk.mark
    rw [hrd,if_pos rfl];exact hm
   have m1:(iP d L).mark 1=d.mark 1:=by
    unfold Dk.mark
    rw [hrd,if_neg (by omega),if_neg (by omega)]
   unfold Dk.cur at hc0 ⊢
   rw [m0,m1]
   rw [if_pos]
   ·rfl
   show (d.mark 1).1<(if (d.mark 1).1<(d.mark 0).1 then d.mark 0 else d.mark 1).1+1
   omega
  ·rw [e] at hrd hm
   have m1:(iP d L).mark 1=(d.cur.1+1,(L.length:Int)):=by
    unfold Dk.mark
    rw [hrd,if_pos rfl];exact hm
   have m0:(iP d L).mark 0=d.mark 0:=by
    unfold Dk.mark
    rw [hrd,if_neg (by omega),if_neg (by omega)]
   unfold Dk.cur at hc0 ⊢
   rw [m0,m1]
   rw [if_neg]
   ·rfl
   show ¬(if (d.mark 1).1<(d.mark 0).1 then d.mark 0 else d.mark 1).1+1<(d.mark 0).1
   omega
 ·have key : ∀(A:List Rcd) (nu a0:Int),1≤nu→nu+A.length≤16777216→(∀r∈A,eY r=true)→0≤a0→a0+sumN A≤2048 →
   (∀i:Nat,i<sumN A→(iP d L).rd ((1+(d.cur.1+1) % 2) * 2048+(a0+i))=(blks d.st nu A).getD i [])→chain (iP d L) ((1+(d.cur.1+1) % 2) * 2048) nu a0 A:=by
   intro A
   induction A with
   | nil=>intros;trivial
   | cons r A ih =>
    intro nu a0 h1 h2 hIr h0 hr hd
    have hI1:=hIr r (List.mem_cons_self ..)
    have hn:=rA hI1
    simp only [sumN,List.length_cons] at hr hd h2
    have hl1:=jo hI1 d.st nu
    refine ⟨Gf hI1 (st:=d.st) (by unfold kW;simp;omega) (by omega) fun i hi=>?_,ih (nu+1) (a0+recN r) (by omega) (by omega) (fun x hx=>hIr x (List.mem_cons_of_mem _ hx)) (by omega) (by omega) fun i hi=>?_⟩
    ·rw [Int.add_assoc,hd i (by omega)]
     exact Ir _ (by omega)
    ·rw [show a0+(recN r:Int)+i=a0+((recN r+i:Nat):Int) by omega,hd _ (by omega)]
     show (dt r d.st nu++blks d.st (nu+1) A).getD (recN r+i) []=_
     rw [←hl1]
     exact FO _
  refine key L 1 0 (by omega) (by omega) (DX hI) (by omega) (by omega) fun i hi=>?_
  rw [hrd,if_neg (by omega),if_pos (by omega)]
  congr 1
  omega
end
end Go.Proofs.Ytmjkpdknicjjgaa
