/-
  Chains: labels, spans, what an element's raises are. No statement of a seat is proved here.
-/
import Derived.Test.YtdbiffjdomokfaaGreatMOpFns
import Derived.Test.YtdbiffjdomokfaaGreatAuVc3
import Derived.Test.YtdbiffjdomokfaaGreatChMath
set_option linter.unusedVariables false
set_option linter.unusedSimpArgs false
set_option linter.unusedSectionVars false
set_option linter.unnecessarySimpa false
set_option maxRecDepth 100000
namespace Go.Proofs.YtdbiffjdomokfaaGreat
open Go.Ab
attribute [local simp] bD bq bo bF bE cZ ld bQ bx bA dx dw cg bT aY ct List.take_of_length_le
@[simp] theorem Bx(a:UInt8)(b:UInt32)(c:UInt8)(d:UInt32):bj env 20 [.agg [a8 a,aF b],.agg [a8 c,aF d]]=some (aB (zB ⟨a,b⟩ ⟨c,d⟩)):=by
 refine aL (fn:=Tryz.f20) (c:=tx) rfl (by kernel_rfl) (by kernel_rfl) (by kernel_rfl) (by kernel_rfl) ?_;refine xz _ _ _ _ fun g=>?_
 simp[ah,ai,ae,af,ad, *,tE]
 repeat' ((first | refine k5 (fun h=>?_) (fun h=>?_) | refine ku (fun h=>?_) (fun h=>?_) | refine ky (fun h=>?_) (fun h=>?_) | refine kq (fun h=>?_) (fun h=>?_) | refine kr (fun h=>?_) (fun h=>?_))<;>(try simp only[decide_eq_true_eq,decide_eq_false_iff_not,Bool.not_eq_true',Bool.not_eq_false',Bool.and_eq_true,Bool.or_eq_true]at h)<;>(try simp[ah,ai,ae,af,ad, *,zB]))
theorem Wo(bh:UInt8)(aQ:UInt32)(aP:UInt8)(aT:Int)(aX:Int)(k9:UInt8)(k8:UInt32)(lP:UInt8)(jx:Int)(h0 : -4611686018427387904<jx)(h1:jx<4611686018427387904):bj env 176 [.agg [a8 bh,aF aQ,a8 aP,aI aT,aI aX],.agg [a8 k9,aF k8,a8 lP,aI jx]]=some (if hasB (⟨⟨⟨bh,aQ,aP⟩,aT⟩,aX⟩:Aq) (⟨⟨k9,k8,lP⟩,jx⟩:fl) then .tup [aI (jx - aT),aB true] else .tup [aI 0,aB false]):=by
 refine aL (fn:=Tryz.f176) (c:=CF) rfl (by kernel_rfl) (by kernel_rfl) (by kernel_rfl) (by kernel_rfl) ?_;refine HU _ _ _ _ fun g=>?_
 cases hb:je (⟨⟨⟨bh,aQ,aP⟩,aT⟩,aX⟩:Aq) with
 | false =>
  have e:hasB (⟨⟨⟨bh,aQ,aP⟩,aT⟩,aX⟩:Aq) (⟨⟨k9,k8,lP⟩,jx⟩:fl)=false:=by simp[hasB,hb]
  simp[ah,ai,ae,af,ad, *,oM]
 | true =>
  have hn:=lF hb
  simp only at hn
  have w1:=IntWalk.i64_in (jx - aT) (by omega)
  have w2:=IntWalk.i64_in (aT+(jx - aT)) (by omega)
  have e0:aT+(jx - aT)=jx:=by omega
  have w3:=IntWalk.i64_in jx (by omega)
  rcases Int.lt_or_le (jx - aT) 0 with c1 | c1
  ·have e:hasB (⟨⟨⟨bh,aQ,aP⟩,aT⟩,aX⟩:Aq) (⟨⟨k9,k8,lP⟩,jx⟩:fl)=false:=by
    have : ¬aT≤jx:=by omega
    simp[hasB,this]
   simp[ah,ai,ae,af,ad, *,oM]
  ·have c1' : ¬jx - aT<0:=by omega
   rcases Int.lt_or_le (jx - aT) aX with c2 | c2
   rotate_left
   ·have e:hasB (⟨⟨⟨bh,aQ,aP⟩,aT⟩,aX⟩:Aq) (⟨⟨k9,k8,lP⟩,jx⟩:fl)=false:=by
     have : ¬jx<aT+aX:=by omega
     simp[hasB,this]
    simp[ah,ai,ae,af,ad, *,oM]
   ·have c2' : ¬aX≤jx - aT:=by omega
    have c3:aT≤jx:=by omega
    have c4:jx<aT+aX:=by omega
    have hS:decide ((⟨bh,aQ,aP⟩:AO)=⟨k9,k8,lP⟩)=(decide (k9=bh)&&decide (k8=aQ)&&decide (lP=aP)):=by
     simp[Bool.and_assoc,eq_comm]
    have e:hasB (⟨⟨⟨bh,aQ,aP⟩,aT⟩,aX⟩:Aq) (⟨⟨k9,k8,lP⟩,jx⟩:fl)=(decide (k9=bh)&&decide (k8=aQ)&&decide (lP=aP)):=by
     rw[←hS];simp only[hasB,hb,c3,c4,decide_true,Bool.and_true,Bool.true_and]
    rw[e]
    clear e hS
    cases hA:(decide (k9=bh)&&decide (k8=aQ)&&decide (lP=aP)) with
    | false=>simp[ah,ai,ae,af,ad, *,oM,mf,gb]
    | true=>simp[ah,ai,ae,af,ad, *,oM,mf,gb]
def p6(t:mL):List mL→Nat→Int
 | [],_ => -1
 | a :: l,k=>if t=a then k else p6 t l (k+1)
theorem IT(t:mL)(l:List mL) : ∀k:Nat,(0≤p6 t l k↔t∈l):=by
 induction l with
 | nil=>intro k;simp[p6]
 | cons a l ih =>
  intro k
  unfold p6
  by_cases h:t=a
  ·simp[h]
  ·rw[if_neg h,ih];simp[h]
theorem GW{x0:AV}{Q:AV→ab→Prop}{l:List mL}(hx:Sl 2 (wX l) x0)(hl:l.length<4611686018427387904){a:UInt8}{b:UInt32}{r3:Ref}{H:ab}(hB:H.get r3=some ⟨2,[.agg [a8 a,aF b]],false,false⟩) :
 ∀(s:List mL)(k:Nat)(i:Int),l.drop k=s→k≤l.length→i=k→(∀y,y=aI (p6 ⟨a,b⟩ s k)→Q y H) →
 bP env Tryz.f173 0 bB [(8,aI i),(0,x0),(3,.ptr r3 0 0),(7,aI l.length)] H Q:=by
 intro s
 induction s with
 | nil =>
  rintro k i hs hk rfl hQ
  obtain rfl:=drop_nil hs hk
  refine dg _ _ _ _ _ _ fun g=>?_
  simp[ah,ai,ae,af,ad, *,bC]
  all_goals exact hQ _ rfl
 | cons t s ih =>
  rintro k i hs hk rfl hQ
  obtain⟨t1,t2⟩:=t
  obtain⟨hlt,hg,hs',hg'⟩:=drop_cons hs
  refine dg _ _ _ _ _ _ fun g=>?_
  have e3:=IntWalk.i64_in ((k:Int)+1) (by omega)
  have hT:((⟨a,b⟩:mL)=⟨t1,t2⟩)=((decide (a=t1)&&decide (b=t2))=true):=by simp
  cases hA:(decide (a=t1)&&decide (b=t2)) with
  | true =>
   rw[hA]at hT
   have e:p6 ⟨a,b⟩ (⟨t1,t2⟩ :: s) k=k:=by unfold p6;rw[if_pos (by rw[hT])]
   clear hT
   simp[ah,ai,ae,af,ad, *,bC,hx.idx,wX,mf,gb]
   all_goals exact hQ _ (by simp[e])
  | false =>
   rw[hA]at hT
   have e:p6 ⟨a,b⟩ (⟨t1,t2⟩ :: s) k=p6 ⟨a,b⟩ s (k+1):=by
    rw[p6,if_neg (by rw[hT];simp)]
   clear hT
   simp[ah,ai,ae,af,ad, *,bC,hx.idx,wX,mf,gb]
   exact ih (k+1) _ hs' (by omega) (by simp) (fun y ey=>hQ y (by rw[ey,e]))
section
variable{x:AV}{l:List mL}(hx:Sl 2 (wX l) x)(hl:l.length<4611686018427387904)
include hx hl
theorem Mz(a:UInt8)(b:UInt32):bj env 173 [x,.agg [a8 a,aF b]]=some (aI (p6 ⟨a,b⟩ l 0)):=by
 refine aL (fn:=Tryz.f173) (c:=b8) rfl (by kernel_rfl) (by kernel_rfl) (by kernel_rfl) (by kernel_rfl) ?_;refine fE _ _ _ _ fun g=>?_
 have h:=hx.len
 simp[ah,ai,ae,af,ad, *,dE]
 exact GW hx hl (a:=a) (b:=b) (by simp) l 0 _ rfl (by omega) rfl (fun y e=>by simp[e])
theorem uC(a:UInt8)(b:UInt32):bj env 171 [x,.agg [a8 a,aF b]]=some (aB (decide (⟨a,b⟩∈l))):=by
 refine aL (fn:=Tryz.f171) (c:=da) rfl (by kernel_rfl) (by kernel_rfl) (by kernel_rfl) (by kernel_rfl) ?_;refine fh _ _ _ _ fun g=>?_
 have h:=Mz hx hl a b
 have e:=IT ⟨a,b⟩ l 0
 simp[ah,ai,ae,af,ad, *,db,hx.r]
end
structure DG (r r7 q:Ref) (c:Option Nat) (info:AV) (H:ab) (out:List mL):Prop where
 fr:Fr H
 mark:H.get r=some (iB 0 info)
 box:H.get r7=some ⟨1,[.cH q 0 out.length c],false,false⟩
 row:H.get q=some ⟨2,wX out,true,false⟩
 cap:(c=none∧q.d=2∧q.t=25∧2≤out.length)∨(c=some out.length∧out.length=1)
 n1:r7≠r
 n2:q≠r
 n3:q≠r7
theorem IG{r r7 q:Ref}{c:Option Nat}{tm:List AV}{H:ab}{out:List mL}{ps:List Tmp}(hps:ps=[17])(htm:cO tm 7 = .ptr r7 0 0)(hI:DG r r7 q c (.lp 0 27 ps dJ dI tm) H out)(hlen:out.length<1000000)(a:UInt8)(b:UInt32) :
 ∃y H',bU env 1 (.yld r) [.agg [a8 a,aF b]] H=some (y,H')∧(y=aB true ∧∃q' c',DG r r7 q' c' (.lp 0 27 ps dJ dI tm) H' (yX out ⟨a,b⟩)):=by
 subst hps
 refine La (fn:=Tryz.f172) (dep:=1) hI.mark (by kernel_rfl) rfl rfl (by kernel_rfl) (by kernel_rfl) ?_
 rw[←Gy (s:=cO (rF tm [17] [.agg [a8 a,aF b]])) (l:=[(7,.ptr r7 0 0),(17,.agg [a8 a,aF b])]) (by
  intro p hp
  simp only[List.mem_cons,List.not_mem_nil,or_false]at hp
  rcases hp with rfl | rfl
  ·show cO (sU tm 17 _) 7=_
   rw[lE]
   simpa using htm
  ·show cO (sU tm 17 _) 17=_
   rw[lE]
   simp)]
 refine(vO r _ _ _ _ fun g=>?_).h _
 obtain⟨fr,mark,box,row,cap,n1,n2,n3⟩:=hI
 have n1':=n1.symm
 have n2':=n2.symm
 have n3':=n3.symm
 have l1:(H.get r).isSome=true:=by rw[mark];rfl
 have l2:(H.get r7).isSome=true:=by rw[box];rfl
 have l3:(H.get q).isSome=true:=by rw[row];rfl
 have f1:out.length+1≤17592186044416:=by omega
 have f2:(out.length+1) * 8≤140737488355328:=by omega
 have ha:(⟨a,b⟩:mL) ∉ out→yX out ⟨a,b⟩=out++[⟨a,b⟩]:=fun h=>by unfold yX;rw[if_neg h]
 rcases cap with ⟨rfl,q1,q2,q3⟩ | ⟨rfl,q3'⟩
 ·obtain⟨qd,qt,qg,qk⟩:=q
  simp only at q1 q2
  subst q1 q2
  have hc:=uC (x := .cw 2 (wX out) none) (Sl.mk _ _) (by omega) a b
  by_cases hm:(⟨a,b⟩:mL)∈out
  ·have e:yX out ⟨a,b⟩=out:=by unfold yX;rw[if_pos hm]
   simp[ah,ai,ae,af,ad, *,hJ,qR,ab.get_put]
   refine⟨_,rfl,_,none,⟨by simp(maxDischargeDepth:=12) [ab.get_put,aq,an,Fr.nil,aD,ah,ai,ae,af,ar,ao,ad, *],by simp(maxDischargeDepth:=12) [ab.get_put,aq,an,Fr.nil,aD,ah,ai,ae,af,ar,ao,ad, *],by simp(maxDischargeDepth:=12) [ab.get_put,aq,an,Fr.nil,aD,ah,ai,ae,af,ar,ao,ad, *],by simp(maxDischargeDepth:=12) [ab.get_put,aq,an,Fr.nil,aD,ah,ai,ae,af,ar,ao,ad, *],.inl ⟨rfl,rfl,rfl,by first | exact q3 | (rw[e];exact q3)⟩,n1,n2,n3⟩⟩
  ·replace ha:=ha hm
   simp[ah,ai,ae,af,ad, *,hJ,qR,ab.get_put]
   refine⟨_,rfl,⟨2,25,H.gen 2 25,0⟩,none,⟨by simp(maxDischargeDepth:=12) [ab.get_put,aq,an,Fr.nil,aD,ah,ai,ae,af,ar,ao,ad, *],by simp(maxDischargeDepth:=12) [ab.get_put,aq,an,Fr.nil,aD,ah,ai,ae,af,ar,ao,ad, *],by simp(maxDischargeDepth:=12) [ab.get_put,aq,an,Fr.nil,aD,ah,ai,ae,af,ar,ao,ad, *],?_,.inl ⟨rfl,rfl,rfl,by simp[ha];omega⟩,by simp(maxDischargeDepth:=12) [ab.get_put,aq,an,Fr.nil,aD,ah,ai,ae,af,ar,ao,ad, *],by simp(maxDischargeDepth:=12) [ab.get_put,aq,an,Fr.nil,aD,ah,ai,ae,af,ar,ao,ad, *],by simp(maxDischargeDepth:=12) [ab.get_put,aq,an,Fr.nil,aD,ah,ai,ae,af,ar,ao,ad, *]⟩⟩
   simp[ab.get_put,wX,ha]
 ·have q3:out.length≤1∧1≤out.length:=by omega
  clear q3'
  have hc:=uC (x := .cw 2 (wX out) (some out.length)) (.inr ⟨_,rfl,by simp⟩) (by omega) a b
  by_cases hm:(⟨a,b⟩:mL)∈out
  ·have e:yX out ⟨a,b⟩=out:=by unfold yX;rw[if_pos hm]
   simp[ah,ai,ae,af,ad, *,hJ,qR,ab.get_put]
   refine⟨_,rfl,_,some out.length,⟨by simp(maxDischargeDepth:=12) [ab.get_put,aq,an,Fr.nil,aD,ah,ai,ae,af,ar,ao,ad, *],by simp(maxDischargeDepth:=12) [ab.get_put,aq,an,Fr.nil,aD,ah,ai,ae,af,ar,ao,ad, *],by simp(maxDischargeDepth:=12) [ab.get_put,aq,an,Fr.nil,aD,ah,ai,ae,af,ar,ao,ad, *],by simp(maxDischargeDepth:=12) [ab.get_put,aq,an,Fr.nil,aD,ah,ai,ae,af,ar,ao,ad, *],.inr ⟨by first | rfl | rw[e],by first | omega | (rw[e];omega)⟩,n1,n2,n3⟩⟩
  ·replace ha:=ha hm
   simp[ah,ai,ae,af,ad, *,hJ,qR,ab.get_put]
   refine⟨_,rfl,⟨2,25,H.gen 2 25,0⟩,none,⟨by simp(maxDischargeDepth:=12) [ab.get_put,aq,an,Fr.nil,aD,ah,ai,ae,af,ar,ao,ad, *],by simp(maxDischargeDepth:=12) [ab.get_put,aq,an,Fr.nil,aD,ah,ai,ae,af,ar,ao,ad, *],by simp(maxDischargeDepth:=12) [ab.get_put,aq,an,Fr.nil,aD,ah,ai,ae,af,ar,ao,ad, *],?_,.inl ⟨rfl,rfl,rfl,by simp[ha];omega⟩,by simp(maxDischargeDepth:=12) [ab.get_put,aq,an,Fr.nil,aD,ah,ai,ae,af,ar,ao,ad, *],by simp(maxDischargeDepth:=12) [ab.get_put,aq,an,Fr.nil,aD,ah,ai,ae,af,ar,ao,ad, *],by simp(maxDischargeDepth:=12) [ab.get_put,aq,an,Fr.nil,aD,ah,ai,ae,af,ar,ao,ad, *]⟩⟩
   simp[ab.get_put,wX,ha]
theorem DG.cons{r r7 q:Ref}{c:Option Nat}{info:AV}{H:ab}{out:List mL}(h:DG r r7 q c info H out)(d t:Nat)(b:Option bM):DG r r7 q c info ((⟨d,t,H.gen d t,0⟩,b) :: H) out:=by
 obtain⟨fr,mark,box,row,cap,n1,n2,n3⟩:=h
 have l1:(H.get r).isSome=true:=by rw[mark];rfl
 have l2:(H.get r7).isSome=true:=by rw[box];rfl
 have l3:(H.get q).isSome=true:=by rw[row];rfl
 exact⟨by simp(maxDischargeDepth:=12) [ab.get_put,aq,an,Fr.nil,aD,ah,ai,ae,af,ar,ao,ad, *],by simp(maxDischargeDepth:=12) [ab.get_put,aq,an,Fr.nil,aD,ah,ai,ae,af,ar,ao,ad, *],by simp(maxDischargeDepth:=12) [ab.get_put,aq,an,Fr.nil,aD,ah,ai,ae,af,ar,ao,ad, *],by simp(maxDischargeDepth:=12) [ab.get_put,aq,an,Fr.nil,aD,ah,ai,ae,af,ar,ao,ad, *],cap,n1,n2,n3⟩
theorem Gj{r r7:Ref}{tm:List AV}(htm:cO tm 7 = .ptr r7 0 0){l:List (bR × AV)}{x9:AV}(hx:Sl 17 (eU l) x9)(hall : ∀p∈l,ID p)(hl:l.length<100000)(k9:UInt8)(k8:UInt32)(lP:UInt8)(jx:Int)(hb0 : -4611686018427387904<jx)(hb1:jx<4611686018427387904)(v1:UInt8)(v2:UInt32){Q:AV→ab→Prop} :
 ∀(s:List (bR × AV)) (k:Nat) (i:Int) (out:List mL) (q:Ref) (c:Option Nat) (H:ab),l.drop k=s→k≤l.length→i=k→out.length≤k+1 →
 DG r r7 q c (.lp 0 27 [17] dJ dI tm) H out →
 (∀y q' c' H',DG r r7 q' c' (.lp 0 27 [17] dJ dI tm) H' (yb out (opsOf s) (⟨⟨k9,k8,lP⟩,jx⟩:fl) ⟨v1,v2⟩)→Q y H') →
 bP env Tryz.f175 (0+1) jD [(11,aI i),(0,.yld r),(3,.iptr 2 [.agg [a8 v1,aF v2]] 0 0),(2,.iptr 4 [.agg [a8 k9,aF k8,a8 lP,aI jx]] 0 0),(9,x9),(10,aI l.length)] H Q:=by
 intro s
 induction s with
 | nil =>
  rintro k i out q c H hs hk rfl ho hI hQ
  obtain rfl:=drop_nil hs hk
  refine pr _ _ _ _ _ _ _ _ _ fun g=>?_
  simp[ah,ai,ae,af,ad, *,fx]
  exact hQ _ _ _ _ hI
 | cons p s ih =>
  rintro k i out q c H hs hk rfl ho hI hQ
  obtain⟨hlt,hg,hs',hg'⟩:=drop_cons hs
  have hp:=hall p (by rw[←hg];exact List.getElem_mem _)
  obtain⟨⟨bh,⟨aQ,aP,aT⟩,aX,⟨⟨⟨bc,ba,bf⟩,bg⟩,au⟩,⟨⟨az,ay,ax⟩,aw⟩,⟨aC,aA⟩,al⟩,x⟩:=p
  obtain⟨hpx,hpl⟩:=hp
  simp only at hpx hpl
  refine pr _ _ _ _ _ _ _ _ _ fun g=>?_
  have e3:=IntWalk.i64_in ((k:Int)+1) (by omega)
  have hh:=Wo bc ba bf bg au k9 k8 lP jx hb0 hb1
  have hI2:=hI.cons 1 6 (some ⟨17,[.agg [a8 bh,a8 aQ,aF aP,a8 aT,aI aX,a8 bc,aF ba,a8 bf,aI bg,aI au,a8 az,aF ay,a8 ax,aI aw,a8 aC,aF aA,x]],false,false⟩)
  have hmf:yb out (opsOf (((⟨bh,⟨aQ,aP,aT⟩,aX,⟨⟨⟨bc,ba,bf⟩,bg⟩,au⟩,⟨⟨az,ay,ax⟩,aw⟩,⟨aC,aA⟩,al⟩:bR),x) :: s)) (⟨⟨k9,k8,lP⟩,jx⟩:fl) ⟨v1,v2⟩=yb (if oy (⟨bh,⟨aQ,aP,aT⟩,aX,⟨⟨⟨bc,ba,bf⟩,bg⟩,au⟩,⟨⟨az,ay,ax⟩,aw⟩,⟨aC,aA⟩,al⟩:bR) (⟨⟨k9,k8,lP⟩,jx⟩:fl) ⟨v1,v2⟩ then yX out ⟨aC,aA⟩ else out) (opsOf s) (⟨⟨k9,k8,lP⟩,jx⟩:fl) ⟨v1,v2⟩:=rfl
  have hfr:=hI.fr
  by_cases hk3:bh=3
  rotate_left
  ·have hr:oy (⟨bh,⟨aQ,aP,aT⟩,aX,⟨⟨⟨bc,ba,bf⟩,bg⟩,au⟩,⟨⟨az,ay,ax⟩,aw⟩,⟨aC,aA⟩,al⟩:bR) (⟨⟨k9,k8,lP⟩,jx⟩:fl) ⟨v1,v2⟩=false:=by simp[oy,hk3]
   rw[hr,if_neg (by decide)]at hmf
   cases hb:hasB ⟨⟨⟨bc,ba,bf⟩,bg⟩,au⟩ (⟨⟨k9,k8,lP⟩,jx⟩:fl)<;>simp[ah,ai,ae,af,ad, *,fx,hx.idx,eU,Fc,hpx.r]
   all_goals exact ih (k+1) _ out q c _ hs' (by omega) (by simp) (by omega) hI2 (fun y q' c' H' hm=>hQ y q' c' H' (by rw[hmf];exact hm))
  ·subst hk3
   cases hb:hasB ⟨⟨⟨bc,ba,bf⟩,bg⟩,au⟩ (⟨⟨k9,k8,lP⟩,jx⟩:fl) with
   | false =>
    have hr:oy (⟨3,⟨aQ,aP,aT⟩,aX,⟨⟨⟨bc,ba,bf⟩,bg⟩,au⟩,⟨⟨az,ay,ax⟩,aw⟩,⟨aC,aA⟩,al⟩:bR) (⟨⟨k9,k8,lP⟩,jx⟩:fl) ⟨v1,v2⟩=false:=by simp[oy,hb]
    rw[hr,if_neg (by decide)]at hmf
    simp[ah,ai,ae,af,ad, *,fx,hx.idx,eU,Fc,hpx.r]
    exact ih (k+1) _ out q c _ hs' (by omega) (by simp) (by omega) hI2 (fun y q' c' H' hm=>hQ y q' c' H' (by rw[hmf];exact hm))
   | true =>
    cases hq:zB ⟨aQ,aP⟩ ⟨v1,v2⟩ with
    | false =>
     have hr:oy (⟨3,⟨aQ,aP,aT⟩,aX,⟨⟨⟨bc,ba,bf⟩,bg⟩,au⟩,⟨⟨az,ay,ax⟩,aw⟩,⟨aC,aA⟩,al⟩:bR) (⟨⟨k9,k8,lP⟩,jx⟩:fl) ⟨v1,v2⟩=false:=by simp[oy,hb,Lu,hq]
     rw[hr,if_neg (by decide)]at hmf
     simp[ah,ai,ae,af,ad, *,fx,hx.idx,eU,Fc,hpx.r]
     exact ih (k+1) _ out q c _ hs' (by omega) (by simp) (by omega) hI2 (fun y q' c' H' hm=>hQ y q' c' H' (by rw[hmf];exact hm))
    | true =>
     have hr:oy (⟨3,⟨aQ,aP,aT⟩,aX,⟨⟨⟨bc,ba,bf⟩,bg⟩,au⟩,⟨⟨az,ay,ax⟩,aw⟩,⟨aC,aA⟩,al⟩:bR) (⟨⟨k9,k8,lP⟩,jx⟩:fl) ⟨v1,v2⟩=true:=by simp[oy,hb,Lu,hq]
     rw[hr,if_pos rfl]at hmf
     obtain⟨y,H',hy,rfl,q',c',hI'⟩:=IG rfl htm hI2 (by omega) aC aA
     simp[ah,ai,ae,af,ad, *,fx,hx.idx,eU,Fc,hpx.r,HA]
     exact ih (k+1) _ _ q' c' _ hs' (by omega) (by simp) (by have:=HI out ⟨aC,aA⟩;omega) hI' (fun y q' c' H' hm=>hQ y q' c' H' (by rw[hmf];exact hm))
theorem Ir{r r7 q:Ref}{c:Option Nat}{tm:List AV}{H:ab}{out:List mL}(htm:cO tm 7 = .ptr r7 0 0){l:List (bR × AV)}{x:AV}(hx:Sl 17 (eU l) x)(hall : ∀p∈l,ID p)(hl:l.length<100000)(k9:UInt8)(k8:UInt32)(lP:UInt8)(jx:Int)(hb0 : -4611686018427387904<jx)(hb1:jx<4611686018427387904)(v1:UInt8)(v2:UInt32)
 (ho:out.length≤1) (hI:DG r r7 q c (.lp 0 27 [17] dJ dI tm) H out) :
 ∃y H',bU env 0 (.fn 175) [.yld r,.iptr 1 [x] 0 0,.iptr 4 [.agg [a8 k9,aF k8,a8 lP,aI jx]] 0 0,.iptr 2 [.agg [a8 v1,aF v2]] 0 0] H=some (y,H') ∧∃q' c',DG r r7 q' c' (.lp 0 27 [17] dJ dI tm) H' (yb out (opsOf l) (⟨⟨k9,k8,lP⟩,jx⟩:fl) ⟨v1,v2⟩):=by
 refine mv (fn:=Tryz.f175) (c:=nP) (by kernel_rfl) (by kernel_rfl) (by kernel_rfl) (by kernel_rfl) (by kernel_rfl) ?_
 refine xC _ _ _ _ _ _ _ fun g=>?_
 simp[ah,ai,ae,af,ad, *,rA,hx.r]
 exact Gj htm hx hall hl k9 k8 lP jx hb0 hb1 v1 v2 l 0 _ out q c H rfl (by omega) rfl (by omega) hI (fun y q' c' H' hm=>⟨q',c',hm⟩)
theorem Pz:gS = .code (.rangeFunc (.tmp 16) #[17] dJ dI) :: pt:=by kernel_rfl
def Lt(out:List mL):Option Nat:=if out.length=1 then some 1 else none
theorem Kq{l:List (bR × AV)}{x:AV}(hx:Sl 17 (eU l) x)(k9:UInt8)(k8:UInt32)(lP:UInt8)(jx:Int)(v1:UInt8)(v2:UInt32):bj env 174 [x,.agg [a8 k9,aF k8,a8 lP,aI jx],.agg [a8 v1,aF v2]]=some (.fn (.func 175) [] [.iptr 1 [x] 0 0,.iptr 4 [.agg [a8 k9,aF k8,a8 lP,aI jx]] 0 0,.iptr 2 [.agg [a8 v1,aF v2]] 0 0]):=by
 refine aL (fn:=Tryz.f174) (c:=tW) rfl (by kernel_rfl) (by kernel_rfl) (by kernel_rfl) (by kernel_rfl) ?_;refine Aw _ _ _ _ _ fun g=>?_
 simp[ah,ai,ae,af,ad, *,ue,hx.r]
theorem R5{l:List (bR × AV)}{x:AV}(hx:Sl 17 (eU l) x)(hall : ∀p∈l,ID p)(hl:l.length<100000)(k9:UInt8)(k8:UInt32)(lP:UInt8)(jx:Int)(hb0 : -4611686018427387904<jx)(hb1:jx<4611686018427387904)(v1:UInt8)(v2:UInt32) :
 bj env 172 [x,.agg [a8 k9,aF k8,a8 lP,aI jx],.agg [a8 v1,aF v2]]=some (.cw 2 (wX (wc (opsOf l) (⟨⟨k9,k8,lP⟩,jx⟩:fl) ⟨v1,v2⟩)) (Lt (wc (opsOf l) (⟨⟨k9,k8,lP⟩,jx⟩:fl) ⟨v1,v2⟩))):=by
 refine aL (fn:=Tryz.f172) (c:=rR) rfl (by kernel_rfl) (by kernel_rfl) (by kernel_rfl) (by kernel_rfl) ?_;refine CZ _ _ _ _ _ fun g=>?_
 have hr:=Kq hx k9 k8 lP jx v1 v2
 have hcap : ∀ {r r7 q c info H out},DG r r7 q c info H out→c=Lt out:=by
  intro r r7 q c info H out h
  rcases h.cap with ⟨h1,_,_,h2⟩ | ⟨h1,h2⟩
  ·rw[h1,Lt,if_neg (by omega)]
  ·rw[h1,Lt,if_pos h2,h2]
 simp[ah,ai,ae,af,ad, *,wM,hx.r]
 rw[Pz]
 refine⟨fun g'=>IZ (gi:=175) (first:=[]) (captured:=[.iptr 1 [x] 0 0,.iptr 4 [.agg [a8 k9,aF k8,a8 lP,aI jx]] 0 0,.iptr 2 [.agg [a8 v1,aF v2]] 0 0]) rfl ?_⟩
 intro tm ht
 have e7:cO tm 7 = .ptr ⟨0,7,0,0⟩ 0 0:=(ht 7).trans rfl
 rw[show Tryz.f172.ntmps=27 from by kernel_rfl]
 obtain⟨y,H',hy,q',c',hm⟩:=Ir (r:=⟨0,27,0,0⟩) (r7:=⟨0,7,0,0⟩) (q:=⟨0,12,0,0⟩) (c:=some 1) (tm:=tm) (out:=[⟨k9,k8⟩])
  (H:=(⟨0,27,0,0⟩,some (iB 0 (.lp 0 27 [17] dJ dI tm))) :: [(⟨0,7,0,0⟩,some ⟨1,[.cH ⟨0,12,0,0⟩ 0 1 (some 1)],false,false⟩),(⟨0,12,0,0⟩,some ⟨2,[.agg [a8 k9,aF k8]],true,false⟩),(⟨0,5,0,0⟩,some ⟨2,[.agg [a8 v1,aF v2]],false,false⟩),(⟨0,4,0,0⟩,some ⟨4,[.agg [a8 k9,aF k8,a8 lP,aI jx]],false,false⟩)])
  e7 hx hall hl k9 k8 lP jx hb0 hb1 v1 v2 (by simp) ⟨by simp(maxDischargeDepth:=12) [aq,an,Fr.nil,aD,ah,ai,ae,af,ar,ao,ad, *],by simp,by simp,by simp[wX],.inr ⟨rfl,rfl⟩,by decide,by decide,by decide⟩
 refine⟨y,H',0,_,by simpa using hy,by simp only[ab.G6,ab.Qb];rw[qR];exact(congrArg YT hm.mark).trans (yp _ _),.inl ⟨rfl,?_⟩⟩
 have hs:=Gy (s:=JK g' [(16,AV.fn (.func 175) [] [.iptr 1 [x] 0 0,.iptr 4 [.agg [a8 k9,aF k8,a8 lP,aI jx]] 0 0,.iptr 2 [.agg [a8 v1,aF v2]] 0 0]),(7,AV.ptr ⟨0,7,0,0⟩ 0 0)]) (l:=[(7,AV.ptr ⟨0,7,0,0⟩ 0 0)]) (by
  intro p hp
  simp only[List.mem_cons,List.not_mem_nil,or_false]at hp
  subst hp
  rfl)
 rw[←hs]
 refine(ur _ _ _ fun g=>?_).h _
 have n1:(⟨0,7,0,0⟩:Ref)≠⟨0,27,0,0⟩:=hm.n1
 have n2:=hm.n2
 have hbx:=hm.box
 have hrw:=hm.row
 have hc:=hcap hm
 subst hc
 have hle:(yb [⟨k9,k8⟩] (opsOf l) (⟨⟨k9,k8,lP⟩,jx⟩:fl) ⟨v1,v2⟩)=wc (opsOf l) (⟨⟨k9,k8,lP⟩,jx⟩:fl) ⟨v1,v2⟩:=rfl
 rw[hle]at hbx hrw
 simp[ah,ai,ae,af,ad, *,pa,ab.get_put]
end Go.Proofs.YtdbiffjdomokfaaGreat
