/-
  A disk that fails, and what is there then: plain laws. No statement of a seat is proved here.
-/
import Derived.Test.YtmjkpdknicjjgaaLogAlive
set_option linter.unusedVariables false
set_option linter.unusedSimpArgs false
set_option linter.unusedSectionVars false
set_option linter.unnecessarySimpa false
set_option maxRecDepth 100000
namespace Go.Proofs.Ytmjkpdknicjjgaa
open Go.Ab
def blks (st:Int):Int→List Rcd→List (List UInt8)
 | _,[]=>[]
 | nu,r :: L=>cG r st nu++blks st (nu+1) L
theorem uM (st:Int) : ∀(L:List Rcd) (nu:Int),(∀r∈L,eK r=true)→(blks st nu L).length=sumN L:=by
 intro L
 induction L with
 | nil=>intro nu _;rfl
 | cons r L ih=>intro nu h;simp [blks,sumN,eu (h r (List.mem_cons_self ..)),ih (nu+1) fun x hx=>h x (List.mem_cons_of_mem _ hx)]
theorem uN (st:Int) : ∀(L M:List Rcd) (nu:Int),blks st nu (L++M)=blks st nu L++blks st (nu+L.length) M:=by
 intro L
 induction L with
 | nil=>intro M nu;simp [blks]
 | cons r L ih=>intro M nu;simp only [List.cons_append,blks,ih,List.append_assoc,List.length_cons];rw [show nu+1+(L.length:Int)=nu+((L.length+1:Nat):Int) by omega]
theorem pJ {α:Type} {l m:List α} {i:Nat} (d:α) (h:i<l.length):(l++m).getD i d=l.getD i d:=by simp [List.getD,List.getElem?_append_left h]
theorem qo {α:Type} {l m:List α} {i:Nat} (d:α):(l++m).getD (l.length+i) d=m.getD i d:=by simp [List.getD,List.getElem?_append_right]
theorem KE {d:Dk} {st:Int} (hst:1≤st∧st<2147483648) : ∀(A:List Rcd) (nu a0:Int),1≤nu→nu+A.length≤16777216→(∀r∈A,eK r=true)→0≤a0→a0+sumN A≤2048 →
 (∀i:Nat,i<sumN A→d.rd (a0+i)=(blks st nu A).getD i [])→chain d 0 nu a0 A:=by
 intro A
 induction A with
 | nil=>intros;trivial
 | cons r A ih =>
  intro nu a0 h1 h2 hI h0 hr hd
  have hIr:=hI r (List.mem_cons_self ..)
  have hn:=jk hIr
  simp only [sumN,List.length_cons] at hr hd h2
  have hlen:=eu hIr st nu
  refine ⟨uS hIr (st:=st) (by unfold jA;simp;omega) (by omega) fun i hi=>?_,ih (nu+1) (a0+recN r) (by omega) (by omega) (fun x hx=>hI x (List.mem_cons_of_mem _ hx)) (by omega) (by omega) fun i hi=>?_⟩
  ·rw [Int.zero_add,hd i (by omega)]
   exact pJ _ (by omega)
  ·rw [show a0+(recN r:Int)+i=a0+((recN r+i:Nat):Int) by omega,hd _ (by omega)]
   show (cG r st nu++blks st (nu+1) A).getD (recN r+i) []=_
   rw [←hlen]
   exact qo _
structure TInv (n:Int) (T:List Rcd) (d:Dk) (A:List Rcd) (sum at':Int):Prop where
 fit:d.Fit
 may:d.may=true
 st:d.st=1
 lf:d.lf=n - min sum n
 dd:d.dd=decide (n<sum)
 sum_eq:sum=sumN T
 okT : ∀r∈T,eK r=true
 rd : ∀i:Nat,i<2048→d.rd i=if (i:Int)<min sum n then (blks 1 1 T).getD i [] else zer
 at_eq:at'=sumN A
 pre:(sum≤n∧A=T)∨(at'≤n∧n<sum ∧ ∃r R,T=A++r :: R∧n<at'+recN r)
theorem Pj {n:Int} (h:0≤n∧n≤1000):TInv n [] (fresh n) [] 0 0 where
 fit:=vU n
 may:=vT (by omega)
 st:=rfl
 lf:=by show n=_;omega
 dd:=by show false=_;rw [eq_comm,decide_eq_false_iff_not];omega
 sum_eq:=rfl
 okT:=fun r hr=>by cases hr
 rd:=fun i _=>by rw [if_neg (by omega)];rfl
 at_eq:=rfl
 pre := .inl ⟨h.1,rfl⟩
theorem K3 {n:Int} {T A:List Rcd} {d:Dk} {sum at':Int} (h:TInv n T d A sum at') (hT:T.length≤12) (hs:sum≤100) (r:Rcd):appE d 0 sum (T.length+1) r=if eK r then 0 else 8:=by
 have h1:=h.sum_eq
 unfold appE
 rw [if_pos h.may,if_pos (by rw [h.st];omega)]
 cases hI:eK r with
 | false=>rfl
 | true =>
  have hn:=jk hI
  rw [if_pos rfl,if_pos (by omega),if_pos rfl]
theorem FQ {n:Int} (hn0:0≤n) {T A:List Rcd} {d:Dk} {sum at':Int} (h:TInv n T d A sum at') (hT:T.length≤12) (hs:sum≤100) {r:Rcd} (hI:eK r=true) :
 TInv n (T++[r]) (d.app 0 sum (T.length+1) r) (if sum+recN r≤n then A++[r] else A) (sum+recN r) (if sum+recN r≤n then sum+recN r else at'):=by
 have hE:=K3 h hT hs r
 rw [hI,if_pos rfl] at hE
 obtain ⟨a1,a2,_,⟨g1,g2,g3,g4,g5,g6,g7⟩,_,hr,hh⟩:=yj h.fit hE
 have hnr:=jk hI
 have hsum:=h.sum_eq
 have hlf:=h.lf
 have hdd:=h.dd
 have hcan:(d.can (recN r):Int)=min (sum+recN r) n - min sum n:=by
  unfold Dk.can
  rw [hdd]
  by_cases hc:n<sum
  ·rw [decide_eq_true hc];simp;omega
  ·rw [decide_eq_false hc,if_neg (by decide),if_neg (by omega)];omega
 have hrd:=fun q=>Iu (d:=d) (by omega) hI 0 sum (T.length+1) q
 have hbl:=uM 1 T 1 h.okT
 refine ⟨a1,a2,by rw [It];exact h.st,?_,?_,by rw [hsum,uA];simp [sumN],?_,fun i hi=>?_,?_,?_⟩
 ·by_cases hc:n<sum
  ·have hd1:d.dd=true:=by rw [hdd];exact decide_eq_true hc
   have hz:d.lf=0:=by omega
   have:(d.app 0 sum (T.length+1) r).lf=d.lf:=by
    unfold Dk.app
    have key : ∀(B:List (List UInt8)) (e:Dk) (q:Int),e.dd=true→(e.wrs q B).lf=e.lf:=by
     intro B
     induction B with
     | nil=>intro e q _;rfl
     | cons b B ih =>
      intro e q he
      have hde:e.dead=true:=by unfold Dk.dead;rw [he];rfl
      show ((e.wr q b).wrs (q+1) B).lf=_
      rw [ih _ _ (by rw [BH,hde]),Fz,hde]
      rfl
    exact key _ _ _ hd1
   rw [this];omega
  ·have hd1:d.tw.dd=false:=by show d.dd=false;rw [hdd];exact decide_eq_false hc
   have:=(Dt (cG r d.st (T.length+1)) d.tw (0 * 2048+sum) hd1 (by show 0≤d.lf;omega)).1
   rw [eu hI,K1,hcan] at this
   show (d.tw.wrs _ _).lf=_
   rw [this]
   show d.lf - _=_
   omega
 ·by_cases hc:n<sum
  ·have hd1:d.dd=true:=by rw [hdd];exact decide_eq_true hc
   have:(d.app 0 sum (T.length+1) r).dd=true:=by
    unfold Dk.app
    have key : ∀(B:List (List UInt8)) (e:Dk) (q:Int),e.dd=true→(e.wrs q B).dd=true:=by
     intro B
     induction B with
     | nil=>intro e q h;exact h
     | cons b B ih =>
      intro e q he
      have hde:e.dead=true:=by unfold Dk.dead;rw [he];rfl
      exact ih _ _ (by rw [BH,hde])
    exact key _ _ _ hd1
   rw [this,eq_comm,decide_eq_true_eq];omega
  ·have hd1:d.tw.dd=false:=by show d.dd=false;rw [hdd];exact decide_eq_false hc
   have:=(Dt (cG r d.st (T.length+1)) d.tw (0 * 2048+sum) hd1 (by show 0≤d.lf;omega)).2
   rw [eu hI] at this
   show (d.tw.wrs _ _).dd=_
   rw [this,decide_eq_decide]
   show d.lf<_↔_
   omega
 ·intro q hq
  rcases List.mem_append.1 hq with hq | hq
  ·exact h.okT q hq
  ·rw [List.mem_singleton.1 hq];exact hI
 ·rw [hrd,Int.zero_mul,Int.zero_add,uN,h.st]
  have hone:(1:Int)+(T.length:Int)=T.length+1:=by omega
  simp only [blks,List.append_nil,hone]
  by_cases h1:(i:Int)<sum
  ·rw [if_neg (by omega),h.rd i hi]
   by_cases h2:(i:Int)<n
   ·rw [if_pos (by omega),if_pos (by omega),pJ _ (by omega)]
   ·rw [if_neg (by omega),if_neg (by omega)]
  ·obtain ⟨j,hj⟩ : ∃j:Nat,i=sumN T+j:=⟨i - sumN T,by omega⟩
   by_cases h2:(i:Int)<min (sum+recN r) n
   ·rw [if_pos (by omega),if_pos h2,hj,←hbl,qo]
    congr 1
    rw [hbl];omega
   ·rw [if_neg (by omega),if_neg h2,h.rd i hi,if_neg (by omega)]
 ·split
  ·rename_i hc
   rcases h.pre with ⟨_,rfl⟩ | ⟨_,hx,_⟩
   ·rw [uA,hsum];simp [sumN]
   ·omega
  ·exact h.at_eq
 ·rcases h.pre with ⟨h1,rfl⟩ | ⟨h1,h2,q,R,h3,h4⟩
  ·by_cases hc:sum+recN r≤n
   ·rw [if_pos hc,if_pos hc];exact .inl ⟨hc,rfl⟩
   ·rw [if_neg hc,if_neg hc]
    have:=h.at_eq
    exact .inr ⟨by omega,by omega,r,[],rfl,by omega⟩
  ·rw [if_neg (by omega),if_neg (by omega)]
   exact .inr ⟨h1,by omega,q,R++[r],by rw [h3];simp,h4⟩
theorem qb {n:Int} {T A:List Rcd} {d:Dk} {sum at':Int} (h:TInv n T d A sum at'):A.length≤T.length∧at'≤sum∧0≤at':=by
 have h1:=h.at_eq
 have h2:=h.sum_eq
 rcases h.pre with ⟨_,rfl⟩ | ⟨_,_,r,R,rfl,_⟩
 ·omega
 ·rw [uA] at h2;simp;omega
theorem xJ {n:Int} (hn0:0≤n) {T A:List Rcd} {d:Dk} {sum at':Int} (h:TInv n T d A sum at') (hT:T.length≤12) (hs:sum≤100):chain d 0 1 0 A:=by
 obtain ⟨l1,l2,l3⟩:=qb h
 have h1:=h.at_eq
 have h2:=h.sum_eq
 have hA : ∃R,T=A++R:=by
  rcases h.pre with ⟨_,rfl⟩ | ⟨_,_,r,R,rfl,_⟩
  ·exact ⟨[],by simp⟩
  ·exact ⟨_,rfl⟩
 have hle:at'≤n:=by
  rcases h.pre with ⟨h3,rfl⟩ | ⟨h3,_⟩<;>omega
 obtain ⟨R,rfl⟩:=hA
 have hok : ∀r∈A,eK r=true:=fun r hr=>h.okT r (List.mem_append.2 (.inl hr))
 refine KE (st:=1) (by omega) A 1 0 (by omega) (by omega) hok (by omega) (by omega) fun i hi=>?_
 have hbl:=uM 1 A 1 hok
 rw [Int.zero_add,h.rd i (by omega),if_pos (by omega),uN,pJ _ (by omega)]
theorem Ax {n:Int} (hn0:0≤n) {T A:List Rcd} {d:Dk} {sum at':Int} (h:TInv n T d A sum at') (hT:T.length≤12) (hs:sum≤100) (nu:Int):gl d at' at' nu=none:=by
 obtain ⟨l1,l2,l3⟩:=qb h
 have h1:=h.at_eq
 have h2:=h.sum_eq
 rcases h.pre with ⟨h3,rfl⟩ | ⟨h3,h4,r,R,rfl,h6⟩
 ·have:=h.rd (sumN A) (by omega)
  rw [if_neg (by omega)] at this
  exact pZ (by rw [h1];exact this)
 ·have hIr:=h.okT r (by simp)
  have hnr:=jk hIr
  have hok : ∀r∈A,eK r=true:=fun r hr=>h.okT r (List.mem_append.2 (.inl hr))
  have hbl:=uM 1 A 1 hok
  have hlen:=eu hIr 1 (1+A.length)
  simp only [List.length_append,List.length_cons] at hT
  refine En hIr (st:=1) (nu:=1+A.length) (by unfold jA;simp;omega) (t:=(n - at').toNat) (by omega) (fun i hi=>?_) ?_
  ·rw [h1,show (sumN A:Int)+i=((sumN A+i:Nat):Int) by omega,h.rd _ (by omega),if_pos (by omega),uN,←hbl,qo]
   exact pJ _ (by omega)
  ·rw [h1,show (sumN A:Int)+((n - sumN A).toNat:Nat)=((n.toNat:Nat):Int) by omega,h.rd _ (by omega),if_neg (by omega)]
theorem Cf {n:Int} (hn0:0≤n) {T A:List Rcd} {d:Dk} {sum at':Int} (h:TInv n T d A sum at') (hT:T.length≤12) (hs:sum≤100) (i:Nat) (hi:at'≤i∧i<2048) (hh:kf (d.rd i)=true):(hdOf (d.rd i)).nu=A.length+1:=by
 obtain ⟨l1,l2,l3⟩:=qb h
 have h1:=h.at_eq
 have h2:=h.sum_eq
 have hrd:=h.rd i hi.2
 by_cases hlt:(i:Int)<min sum n
 ·rw [if_pos hlt] at hrd
  rcases h.pre with ⟨h3,rfl⟩ | ⟨h3,h4,r,R,rfl,h6⟩
  ·omega
  ·have hIr:=h.okT r (by simp)
   have hok : ∀r∈A,eK r=true:=fun r hr=>h.okT r (List.mem_append.2 (.inl hr))
   have hbl:=uM 1 A 1 hok
   have hlen:=eu hIr 1 (1+A.length)
   have hnr:=jk hIr
   simp only [List.length_append,List.length_cons] at hT
   obtain ⟨j,hj⟩ : ∃j:Nat,i=sumN A+j:=⟨i - sumN A,by omega⟩
   rw [hj,uN,←hbl,qo] at hrd
   have e:(blks 1 (1+A.length) (r :: R)).getD j []=(cG r 1 (1+A.length)).getD j []:=pJ _ (by omega)
   rw [e,hbl,←hj] at hrd
   have hb:(cG r 1 (1+A.length))[j]?=some (d.rd i):=by
    rw [hrd,List.getElem?_eq_getElem (by omega)]
    simp [List.getD,show j<(cG r 1 (1+A.length)).length by omega]
   have:=(jw (by unfold jA;simp;omega) hb (by omega)).1
   rw [this]
   show (1:Int)+A.length=_
   omega
 ·rw [if_neg hlt] at hrd
  rw [hrd,D3] at hh
  cases hh
structure SInv (t:Int) (s:Dk) (A:List Rcd) (at':Int):Prop where
 fit:s.Fit
 may:s.may=true
 st:s.st=2
 lf:s.lf = -1
 dd:s.dd=false
 ch:chain s 0 1 0 A
 at_eq:at'=sumN A
 none:gl s at' at' (A.length+1) = .none
 beyond : ∀i:Nat,at'≤i→i<2048→kf (s.rd i)=true→(hdOf (s.rd i)).nu=t
 le:t≤A.length+1
theorem Pp {n:Int} (hn0:0≤n) {T A:List Rcd} {d:Dk} {sum at':Int} (h:TInv n T d A sum at') (hT:T.length≤12) (hs:sum≤100):SInv (A.length+1) (d.again (-1)) A at' where
 fit:=IB h.fit _
 may:=IA h.may (by omega) (by rw [h.st];decide)
 st:=by show d.st+1=2;rw [h.st];rfl
 lf:=rfl
 dd:=rfl
 ch:=wi A 1 0 (xJ hn0 h hT hs) fun q _ _=>z1 _ _ _
 at_eq:=h.at_eq
 none:=by rw [BK (d:=d) fun i _ _=>z1 _ _ _];exact Ax hn0 h hT hs _
 beyond:=fun i h1 h2 h3=>by rw [z1] at h3 ⊢;exact Cf hn0 h hT hs i ⟨h1,h2⟩ h3
 le:=Int.le_refl _
theorem K7 {t:Int} {A:List Rcd} {s:Dk} {at':Int} (h:SInv t s A at') (hT:A.length≤100) (hs:at'≤100) (r:Rcd):appE s 0 at' (A.length+1) r=if eK r then 0 else 8:=by
 have h1:=h.at_eq
 unfold appE
 rw [if_pos h.may,if_pos (by rw [h.st];omega)]
 cases hI:eK r with
 | false=>rfl
 | true =>
  have hn:=jk hI
  rw [if_pos rfl,if_pos (by omega),if_pos rfl]
theorem F8 {t:Int} {A:List Rcd} {s:Dk} {at':Int} (h:SInv t s A at') (hT:A.length≤100) (hs:at'≤100) {r:Rcd} (hI:eK r=true):SInv t (s.app 0 at' (A.length+1) r) (A++[r]) (at'+recN r):=by
 have hE:=K7 h hT hs r
 rw [hI,if_pos rfl] at hE
 obtain ⟨a1,a2,_,⟨g1,g2,g3,g4,g5,g6,g7⟩,_,hr,hh⟩:=yj h.fit hE
 have hnr:=jk hI
 have h1:=h.at_eq
 have ai:=Iv h.dd h.lf 0 at' (A.length+1) r
 have hrd:=fun q=>Iu (d:=s) (by rw [h.lf];omega) hI 0 at' (A.length+1) q
 simp only [Ig h.dd h.lf,Int.zero_mul,Int.zero_add] at hrd
 have hbey : ∀i:Nat,at'+recN r≤i→i<2048→kf ((s.app 0 at' (A.length+1) r).rd i)=true→(hdOf ((s.app 0 at' (A.length+1) r).rd i)).nu=t:=fun i h2 h3 h4=>by
  rw [hrd,if_neg (by omega)] at h4 ⊢
  exact h.beyond i (by omega) h3 h4
 refine ⟨a1,a2,by rw [It];exact h.st,ai.1,ai.2,?_,by rw [h1,uA];simp [sumN],?_,hbey,by have:=h.le;simp;omega⟩
 ·refine Fo A 1 0 (wi A 1 0 h.ch fun q q1 q2=>by rw [hrd,if_neg (by omega)]) ?_
  rw [Int.zero_add,Int.zero_add,←h1,show (1:Int)+A.length=A.length+1 by omega]
  refine uS hI hh hr fun i hi=>?_
  rw [hrd,if_pos (by omega)]
  congr 1
  omega
 ·by_cases h48:at'+recN r=2048
  ·unfold gl;rw [if_pos (by omega)]
  ·refine BJ fun hh=>?_
   rw [show at'+(recN r:Int)=((at'+recN r).toNat:Nat) by omega] at hh ⊢
   rw [hbey _ (by omega) (by omega) hh]
   have:=h.le
   simp
   omega
theorem AE {t:Int} {A:List Rcd} {s:Dk} {at':Int} (h:SInv t s A at') (hT:A.length≤100):gY s 0 0 1000 2049 0 0=(A,at'):=by
 have h1:=h.at_eq
 have:=qc (d:=s) (p:=0) (nu:=0) (most:=1000) A 2049 0 0 (by simpa using h.ch) (by
  rw [Int.zero_add,Int.zero_add,←h1]
  have:=h.none
  simpa using this) (by simp;omega) (by omega)
 rw [this,Int.zero_add,←h1]
theorem FR {n:Int} (hn0:0≤n) {T A:List Rcd} {d:Dk} {sum at':Int} (h:TInv n T d A sum at') (hT:T.length≤12) (hs:sum≤100):gY d 0 0 1000 2049 0 0=(A,at'):=by
 have h1:=h.at_eq
 obtain ⟨l1,l2,l3⟩:=qb h
 have:=qc (d:=d) (p:=0) (nu:=0) (most:=1000) A 2049 0 0 (by simpa using xJ hn0 h hT hs) (by
  rw [Int.zero_add,Int.zero_add,←h1]
  exact Ax hn0 h hT hs _) (by simp;omega) (by omega)
 rw [this,Int.zero_add,←h1]
end Go.Proofs.Ytmjkpdknicjjgaa
