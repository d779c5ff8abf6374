/-
  Records that last: plain laws. No statement of a seat is proved here.
-/
import Derived.Test.YtiidajnodhkidaaGreatMStTurn
set_option linter.unusedVariables false
set_option linter.unusedSimpArgs false
set_option linter.unusedSectionVars false
set_option linter.unnecessarySimpa false
set_option maxRecDepth 100000
namespace Go.Proofs.YtiidajnodhkidaaGreat
open Go.Ab
theorem P3{l:List (List UInt8)}{p:Rcd × Hd}(h:getR l=some p) : ∀(i:Nat)(b:List UInt8),l[i]?=some b→kD b=true:=by
 intro i b hb
 unfold getR at h
 split at h
 ·rename_i hc
  cases h
  simp only[Bool.and_eq_true,wA,decide_eq_true_eq]at hc
  obtain⟨h0,h8,⟨hr,hh⟩,hl⟩:=hc
  have hlen:=fc hr (hdOf (l.headD [])).st (hdOf (l.headD [])).nu
  rw[hl]at hlen
  have hi:=(List.getElem?_eq_some_iff.1 hb).1
  have hb':=hb
  rw[←hl]at hb'
  exact(j5 hh hb' (by omega)).2.1
 ·cases h
theorem getD_some{l:List (List UInt8)}{i:Nat}(h:i<l.length):l[i]?=some (l.getD i []):=by rw[List.getElem?_eq_getElem h];simp[List.getD,h]
theorem SP : ∀(l:List Sec)(a:Int),ascS a l=true →∀s∈l,rdR l s.pos=s.bs∧a<s.pos:=by
 intro l
 induction l with
 | nil=>intro a _ s hs;cases hs
 | cons p l ih =>
  intro a h s hs
  have h':=h
  simp[ascS]at h
  rcases List.mem_cons.1 hs with rfl | hs
  ·refine⟨?_,h.1.1.1⟩
   unfold rdR
   rw[if_neg (by omega),if_pos rfl]
  ·have:=ih p.pos h.2 s hs
   refine⟨?_,by have:=h.1.1.1;omega⟩
   unfold rdR
   rw[if_pos this.2]
   exact this.1
theorem Fz : ∀(B:List (List UInt8)) (e:Dk) (q:Int),e.dd=true→(e.wrs q B).lf=e.lf∧(e.wrs q B).dd=true:=by
 intro B
 induction B with
 | nil=>intro e q h;exact⟨rfl,h⟩
 | cons b B ih =>
  intro e q he
  have hde:e.dead=true:=by unfold Dk.dead;rw[he];rfl
  have:=ih (e.wr q b) (q+1) (by rw[w6,hde])
  rw[Cd,hde]at this
  exact this
theorem IF{d:Dk}{p nu most:Int} : ∀(L:List Rcd)(m:Nat)(at':Int)(n:Nat),chain d p (nu+n+1) at' L→(n:Int)+L.length=most→L.length<m→fu d p nu most m at' n=(L,at'+sumN L):=by
 intro L
 induction L with
 | nil =>
  intro m at' n _ hm hl
  obtain⟨m,rfl⟩ : ∃m',m=m'+1:=⟨m - 1,by simp at hl;omega⟩
  unfold fu
  rw[if_neg (by simp at hm;omega)]
  simp[sumN]
 | cons a L ih =>
  intro m at' n hc hm hl
  obtain⟨m,rfl⟩ : ∃m',m=m'+1:=⟨m - 1,by simp at hl;omega⟩
  simp only[List.length_cons]at hm hl
  have h2:=ih m (at'+recN a) (n+1) (by have:=hc.2;rw[show nu+((n+1:Nat):Int)+1=nu+n+1+1 by omega];exact this) (by omega) (by omega)
  unfold fu
  rw[if_pos (by omega),hc.1]
  simp only
  rw[h2]
  simp[sumN,Int.add_assoc]
structure Good (d:Dk) (L1 L2:List Rcd) (g at':Int):Prop where
 fit:d.Fit
 may:d.may=true
 st:1≤d.st
 gen:0≤g
 has:Has d g L1
 ch:chain d 0 (L1.length+1) 0 L2
 at_eq:at'=sumN L2
 room:at'≤2048
 okW:(L1++L2).all ej=true
 none:gp d at' at' ((L1++L2).length+1) = .none
 hd : ∀i:Nat,i<2048→kD (d.rd i)=true→(hdOf (d.rd i)).st≤d.st∧(hdOf (d.rd i)).nu≤(L1++L2).length+1∧(d.dd=false→(hdOf (d.rd i)).nu=(L1++L2).length+1→(hdOf (d.rd i)).st<d.st)
theorem Nv{L:List Rcd}(h:L.all ej=true):sumN L≤3 * L.length:=by
 induction L with
 | nil=>simp[sumN]
 | cons r L ih =>
  simp only[List.all_cons,Bool.and_eq_true]at h
  have:=ih h.2
  have:=m9 h.1
  simp only[sumN,List.length_cons]
  omega
theorem I8{L:List Rcd}(h:L.all ej=true)(hl:L.length≤200):lM L=0:=by
 have:=Nv h
 unfold lM
 rw[if_neg (by omega),if_pos h,if_pos (by omega)]
section
variable{d:Dk}{L1 L2:List Rcd}{g at':Int}(h:Good d L1 L2 g at')
include h
theorem EN:0≤at'∧at'≤2048:=by
 have h1:=h.at_eq
 have h2:=h.room
 omega
theorem Gh:at'≤3 * (L1++L2).length:=by
 have h1:=h.at_eq
 have h2:=h.okW
 rw[List.all_append,Bool.and_eq_true]at h2
 have:=Nv h2.2
 rw[List.length_append]
 omega
theorem BA:L1.length≤2048∧L2.length≤2048:=by
 have h1:=uh L1 1 0 h.has.ch
 have h2:=uh L2 _ 0 h.ch
 have h3:=h.has.sum
 have h4:=h.at_eq
 have h5:=h.room
 omega
theorem MN:d.mor=(L2,at'):=by
 have h3:=BA h
 have h1:=h.at_eq
 have hn:=h.none
 unfold Dk.mor
 rw[h.has.cur]
 by_cases h48:L2.length=2048
 ·have:=IF (d:=d) (p:=0) (nu:=L1.length) (most:=2048) L2 2049 0 0 (by simpa using h.ch) (by simp;omega) (by omega)
  rw[this,Int.zero_add,←h1]
 ·have:=GQ (d:=d) (p:=0) (nu:=L1.length) (most:=2048) L2 2049 0 0 (by simpa using h.ch) (by
   rw[Int.zero_add,Int.zero_add,←h1]
   rw[List.length_append]at hn
   simpa [Int.add_assoc] using hn) (by simp;omega) (by omega)
  rw[this,Int.zero_add,←h1]
theorem Kd:ofE d=0∧d.all=L1++L2∧d.cur=(g,(L1.length:Int))∧d.mor=(L2,at'):=by
 have hm:=MN h
 have hl:=PX h.has
 have hc:=h.has.cur
 refine⟨?_,by unfold Dk.all;rw[hl,hm],hc,hm⟩
 have hst:=h.st
 have ha:=vc h.may
 unfold ofE
 rw[if_pos h.may,if_neg (by omega),hl,hc,if_pos rfl,hm,if_neg]
 rw[List.any_eq_true]
 rintro⟨s,hs,ho⟩
 obtain⟨h1,h2⟩:=SP d.l (-1) ha s hs
 unfold oddB Mz at ho
 simp only[Bool.and_eq_true,decide_eq_true_eq,Bool.or_eq_true,Bool.not_eq_true']at ho
 obtain⟨o1,o2,o3⟩:=ho
 have hrd:d.rd ((s.pos.toNat:Nat):Int)=s.bs:=by
  rw[show((s.pos.toNat:Nat):Int)=s.pos by omega];exact h1
 have:=h.hd s.pos.toNat (by omega) (by rw[hrd];exact o2)
 rw[hrd,List.length_append]at this
 obtain⟨t1,t2,t3⟩:=this
 rcases o3 with o3 | o3 | ⟨o3,o4,o5⟩
 ·omega
 ·omega
 ·have:=t3 o5 (by omega)
  omega
theorem sY:Good d.tw L1 L2 g at':=by
 refine⟨tx h.fit,by rw[Il];exact h.may,h.st,h.gen,xR h.has (fun q _=>GM d q) h.gen,k9 L2 _ 0 h.ch fun q _ _=>GM d q,h.at_eq,h.room,h.okW,?_,fun i hi hh=>?_⟩
 ·rw[pk (d:=d) fun i _ _=>GM d _];exact h.none
 ·rw[GM]at hh ⊢
  exact h.hd i hi hh
theorem xT{r:Rcd}:appE d 0 at' ((L1++L2).length+1) r=if ej r then (if at'+recN r≤2048 then 0 else 9) else 8:=by
 have hst:=h.st
 have ha:=EN h
 have hl:=BA h
 have hx:(L1++L2).length=L1.length+L2.length:=List.length_append
 unfold appE
 rw[if_pos h.may,if_pos (by omega)]
theorem Gi{r:Rcd}(hI:ej r=true)(hl:at'+recN r≤2048) :
 (d.can (recN r)=recN r∧Good (d.app 0 at' ((L1++L2).length+1) r) L1 (L2++[r]) g (at'+recN r)∧(d.app 0 at' ((L1++L2).length+1) r).dd=false) ∨
 (Good (d.app 0 at' ((L1++L2).length+1) r) L1 L2 g at'∧(d.app 0 at' ((L1++L2).length+1) r).dd=true):=by
 have hE:=xT h (r:=r)
 rw[hI,if_pos rfl,if_pos hl]at hE
 obtain⟨a1,a2,_,⟨g1,g2,g3,g4,g5,g6,g7⟩,_,hr,hh⟩:=Ak h.fit hE
 have hnr:=m9 hI
 have h1:=h.at_eq
 have hst:=h.st
 have hmh:=F7 h.may
 have hgen:=h.gen
 have hrd:=fun q=>Uf hmh.2 hI 0 at' ((L1++L2).length+1) q
 simp only[Int.zero_mul,Int.zero_add]at hrd
 have hcan:d.can (recN r)≤recN r:=by
  unfold Dk.can
  split
  ·omega
  ·split<;>omega
 have hbk:=fun(i:Nat)(hi:i<recN r)=>j5 (r:=r) (st:=d.st) (nu:=(L1++L2).length+1) hh (i:=i) (b:=(dF r d.st ((L1++L2).length+1)).getD i []) (by
  have:=fc hI d.st ((L1++L2).length+1)
  exact getD_some (by omega)) hi
 have hdd:(d.app 0 at' ((L1++L2).length+1) r).dd=decide (d.can (recN r)<recN r):=by
  have hlen:=fc hI d.st ((L1++L2).length+1)
  unfold Dk.app Dk.can
  cases h2:d.dd with
  | true=>rw[(Fz _ d.tw _ h2).2,if_pos rfl,eq_comm,decide_eq_true_eq];omega
  | false =>
   simp only[Bool.false_eq_true,if_false]
   by_cases h3:d.lf<0
   ·rw[if_pos h3,(uL _ d.tw _ h2 (show d.lf = -1 by omega)).2];simp
   ·rw[if_neg h3]
    rw[(Ap _ d.tw _ h2 (show 0≤d.lf by omega)).2,hlen,decide_eq_decide]
    show d.lf<_↔_
    omega
 have hall:(L1++L2).all ej=true:=h.okW
 rcases Nat.lt_or_ge (d.can (recN r)) (recN r)with hlt | hge
 ·refine .inr ⟨⟨a1,a2,by rw[sA];exact hst,hgen,xR h.has (fun q hq=>by rw[hrd,if_neg (by omega)]) hgen,k9 L2 _ 0 h.ch fun q q1 q2=>by rw[hrd,if_neg (by omega)],h1,h.room,hall,?_,fun i hi hho=>?_⟩,by rw[hdd];exact decide_eq_true hlt⟩
  ·by_cases hc0:d.can (recN r)=0
   ·rw[pk (d:=d) fun i _ _=>by rw[hrd,if_neg (by omega)]]
    exact h.none
   ·have hdf:d.dd=false:=by
     cases h2:d.dd with
     | false=>rfl
     | true=>exact absurd (by unfold Dk.can;rw[h2];rfl) hc0
    have h0:=hbk 0 (by omega)
    have e0:(d.app 0 at' ((L1++L2).length+1) r).rd at'=(dF r d.st ((L1++L2).length+1)).getD 0 []:=by
     rw[hrd,if_pos (by omega)];congr 1;omega
    unfold gp
    rw[if_neg (by omega),e0,h0.1,h0.2.1,if_pos (by simp;omega)]
    have e2:(Hd.mk d.st ((L1++L2).length+1) ((0:Nat):Int) (recN r)).of.toNat=recN r:=rfl
    rw[e2]
    cases hg:getR (gG (d.app 0 at' ((L1++L2).length+1) r) at' (recN r)) with
    | none=>rfl
    | some q =>
     exfalso
     have k0:=z8 hg 0 _ (rK _ at' (recN r) (by omega))
     have kc:=z8 hg (d.can (recN r)) _ (rK _ at' (recN r) hlt)
     have ko:=P3 hg (d.can (recN r)) _ (rK _ at' (recN r) hlt)
     rw[Int.natCast_zero,Int.add_zero,e0,h0.1]at k0
     have e3:(d.app 0 at' ((L1++L2).length+1) r).rd (at'+(d.can (recN r):Nat))=d.rd ((at'.toNat+d.can (recN r):Nat):Int):=by
      rw[hrd,if_neg (by omega)];congr 1;omega
     rw[e3]at kc ko
     have:=h.hd (at'.toNat+d.can (recN r)) (by omega) ko
     rw[kc]at this
     have k1:d.st=q.2.st:=by have:=congrArg Hd.st k0;simpa using this
     have k2:(((L1++L2).length:Int)+1)=q.2.nu:=by have:=congrArg Hd.nu k0;simpa using this
     have:=this.2.2 hdf (by simp only;omega)
     simp only at this
     omega
  ·rw[hrd]at hho ⊢
   rw[sA]
   by_cases hq:at'≤i∧(i:Int)<at'+d.can (recN r)
   ·rw[if_pos hq]at hho ⊢
    have:=(hbk ((i:Int) - at').toNat (by omega)).1
    rw[this]
    refine⟨Int.le_refl _,Int.le_refl _,fun hf=>?_⟩
    rw[hdd,decide_eq_true hlt]at hf
    cases hf
   ·rw[if_neg hq]at hho ⊢
    have:=h.hd i hi hho
    refine⟨this.1,this.2.1,fun hf=>?_⟩
    rw[hdd,decide_eq_true hlt]at hf
    cases hf
 ·have hceq:d.can (recN r)=recN r:=by omega
  have hlW:(L1++(L2++[r])).length=(L1++L2).length+1:=by simp;omega
  refine .inl ⟨hceq,⟨a1,a2,by rw[sA];exact hst,hgen,xR h.has (fun q hq=>by rw[hrd,if_neg (by omega)]) hgen,?_,by rw[h1,Lm];simp[sumN],hl,?_,?_,fun i hi hho=>?_⟩,by rw[hdd];exact decide_eq_false (by omega)⟩
  ·refine HN L2 _ 0 (k9 L2 _ 0 h.ch fun q q1 q2=>by rw[hrd,if_neg (by omega)]) ?_
   rw[Int.zero_add,Int.zero_add,←h1,show(L1.length:Int)+1+L2.length=(L1++L2).length+1 by simp;omega]
   refine Cf hI hh hr fun i hi=>?_
   rw[hrd,if_pos (by omega)]
   congr 1
   omega
  ·rw[←List.append_assoc,List.all_append,hall,Bool.true_and]
   simp[hI]
  ·rw[hlW]
   by_cases h48:at'+recN r=2048
   ·unfold gp;rw[if_pos (by omega)]
   ·refine w7 fun hho=>?_
    have ha:=EN h
    rw[show at'+(recN r:Int)=((at'+recN r).toNat:Nat) by omega,hrd,if_neg (by omega)]at hho ⊢
    have:=h.hd _ (by omega) hho
    omega
  ·rw[hlW,sA]
   rw[hrd]at hho ⊢
   by_cases hq:at'≤i∧(i:Int)<at'+d.can (recN r)
   ·rw[if_pos hq]at hho ⊢
    have:=(hbk ((i:Int) - at').toNat (by omega)).1
    rw[this]
    exact⟨Int.le_refl _,by show((L1++L2).length:Int)+1≤_;omega,fun _ hx=>by simp only at hx;omega⟩
   ·rw[if_neg hq]at hho ⊢
    have:=h.hd i hi hho
    exact⟨this.1,by omega,fun _ hx=>by omega⟩
theorem z5:o6 d (L1++L2)=if lM (L1++L2)=0 then (if 2147483648≤g+1 then 9 else 0) else lM (L1++L2):=by
 have hst:=h.st
 unfold o6
 rw[if_pos h.may,if_neg (by omega),h.has.cur]
theorem Dg(hr0:lM (L1++L2)=0)(hg:g+1<2147483648) : ∃g' M1 M2 at2,M1++M2=L1++L2∧g'≤g+1∧Good (eH d (L1++L2)) M1 M2 g' at2∧(eH d (L1++L2)).st=d.st∧(d.dd=true→(eH d (L1++L2)).dd=true)∧(d.dd=false→d.lf = -1→(eH d (L1++L2)).dd=false∧(eH d (L1++L2)).lf = -1∧at2=0∧M2=[]):=by
 have hst:=h.st
 have hgen:=h.gen
 have hmh:=F7 h.may
 obtain⟨r1,r2,r3⟩:=CO hr0
 have hk:=EJ h.fit h.may hst hr0
 have hcg:d.cur.1=g:=by rw[h.has.cur]
 have hms:=h.has.sum
 have stay:(∀q,¬((1+(d.cur.1+1) % 2) * 2048≤q∧q<(1+(d.cur.1+1) % 2) * 2048+sumN (L1++L2))→(eH d (L1++L2)).rd q=d.rd q)→(eH d (L1++L2)).dd=true→(eH d (L1++L2)).st=d.st→Good (eH d (L1++L2)) L1 L2 g at':=by
  intro hrd hdd hs
  rw[hcg]at hrd
  have hlow : ∀q:Int,q<2048→(eH d (L1++L2)).rd q=d.rd q:=fun q hq=>hrd q (by omega)
  have ha:=EN h
  have hch:=uh L2 _ _ h.ch
  refine⟨hk.1,hk.2,by rw[hs];exact hst,hgen,?_,k9 L2 _ 0 h.ch fun q q1 q2=>hlow q (by have:=h.at_eq;omega),h.at_eq,h.room,h.okW,?_,fun i hi hho=>?_⟩
  ·refine⟨?_,k9 L1 1 0 h.has.ch fun q q1 q2=>hrd q (by omega),h.has.sum⟩
   have:(eH d (L1++L2)).cur=d.cur:=by
    unfold Dk.cur Dk.mark
    rw[hrd _ (by omega),hrd _ (by omega)]
   rw[this,h.has.cur]
  ·rw[pk (d:=d) fun i i1 i2=>hlow _ (by omega)]
   exact h.none
  ·rw[hlow i (by omega)]at hho ⊢
   rw[hs]
   have:=h.hd i hi hho
   exact⟨this.1,this.2.1,fun hf=>by rw[hdd]at hf;cases hf⟩
 cases hd:d.dd with
 | true =>
  have he:=B0 (L1++L2) d (1+(d.cur.1+1) % 2) 0 1 r1
  rw[Int.add_zero]at he
  have hw:=Fz (blks d.st 1 (L1++L2)) d ((1+(d.cur.1+1) % 2) * 2048) hd
  have hdead:(uD d (1+(d.cur.1+1) % 2) 0 1 (L1++L2)).dead=true:=by
   rw[rH he];unfold Dk.dead;rw[hw.2];rfl
  have hcan:d.can (blks d.st 1 (L1++L2)).length=0:=by unfold Dk.can;rw[hd];rfl
  have hrd : ∀q,(eH d (L1++L2)).rd q=d.rd q:=fun q=>by
   unfold eH
   rw[GA,hdead,he.rd,Fy _ _ _ _ hmh.2,hcan,if_neg (by simp),if_neg (by omega)]
  have hs:(eH d (L1++L2)).st=d.st:=by unfold eH;rw[Gz,he.st,Fx 0]
  have hdd:(eH d (L1++L2)).dd=true:=by unfold eH;rw[w6,hdead]
  exact⟨g,L1,L2,at',rfl,by omega,stay (fun q _=>hrd q) hdd hs,hs,fun _=>hdd,fun hf=>by cases hf⟩
 | false =>
  by_cases hfull:d.lf = -1∨(sumN (L1++L2):Int)+1≤d.lf
  ·have hF:Full d (sumN (L1++L2)+1):=⟨hd,hfull⟩
   obtain⟨k1,k2,k3,k4⟩:=Db r1 hF hmh.2
   have hn:=PW r1 r2 ⟨hst,by omega⟩ (by omega) r3 hF hmh.2
   rw[hcg]at hn k1
   have hlow : ∀q:Int,q<2048→(eH d (L1++L2)).rd q=d.rd q:=fun q hq=>by rw[k1,if_neg (by omega),if_neg (by omega)]
   refine⟨g+1,L1++L2,[],0,by simp,by omega,⟨hk.1,hk.2,by rw[k3];exact hst,by omega,hn,trivial,rfl,by omega,by simpa using h.okW,?_,fun i hi hho=>?_⟩,k3,fun hf=>(by cases hf),fun _ hl=>⟨k2,k4 hl,rfl,rfl⟩⟩
   ·rw[List.append_nil,pk (d:=d) fun i i1 i2=>hlow _ (by omega)]
    cases L2 with
    | nil =>
     have ha0:at'=0:=by rw[h.at_eq];rfl
     have:=h.none
     rw[ha0]at this
     exact this
    | cons r M =>
     refine w7 fun hho=>?_
     have hw:=h.ch.1
     rw[Int.zero_add]at hw
     have:(hdOf (d.rd 0)).nu=(L1.length:Int)+1:=by
      unfold gp at hw
      rw[if_neg (by omega)]at hw
      split at hw
      ·rename_i hc
       simp only[Bool.and_eq_true,decide_eq_true_eq]at hc
       exact hc.2.1
      ·cases hw
     rw[this]
     simp
     omega
   ·rw[hlow i (by omega)]at hho ⊢
    rw[k3,List.append_nil]
    have:=h.hd i hi hho
    exact⟨this.1,this.2.1,fun _=>this.2.2 hd⟩
  ·obtain⟨k1,k2,k3⟩:=JW r1 hd (by omega) (by omega)
   exact⟨g,L1,L2,at',rfl,by omega,stay k1 k2 k3,k3,fun hf=>(by cases hf),fun _ hl=>by omega⟩
end
end Go.Proofs.YtiidajnodhkidaaGreat
