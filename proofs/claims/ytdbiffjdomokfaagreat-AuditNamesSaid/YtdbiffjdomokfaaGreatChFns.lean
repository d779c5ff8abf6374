/-
  Chains: labels, spans, what an element's raises are. No statement of a seat is proved here.
-/
import Derived.Test.YtdbiffjdomokfaaGreatMOpFns
import Derived.Test.YtdbiffjdomokfaaGreatAuVc3
import Derived.Test.YtdbiffjdomokfaaGreatChMath
set_option linter.unusedVariables false
set_option linter.unusedSimpArgs false
set_option linter.unusedSectionVars false
set_option linter.unnecessarySimpa false
set_option maxRecDepth 100000
namespace Go.Proofs.YtdbiffjdomokfaaGreat
open Go.Ab
attribute [local simp] bK bw bo bM bL dc kS bU bx bH dJ dI cp bX bh cC List.take_of_length_le
@[simp] theorem CP(a:UInt8)(b:UInt32)(c:UInt8)(d:UInt32):bj env 20 [.agg [a8 a,aF b],.agg [a8 c,aF d]]=some (aB (Ck ⟨a,b⟩ ⟨c,d⟩)):=by
 refine aJ (fn:=Tryz.f20) (c:=su) rfl (by kernel_rfl) (by kernel_rfl) (by kernel_rfl) (by kernel_rfl) ?_;refine wx _ _ _ _ fun g=>?_
 simp[ah,ai,ae,af,ad, *,sD]
 repeat' ((first | refine kP (fun h=>?_) (fun h=>?_) | refine kp (fun h=>?_) (fun h=>?_) | refine kq (fun h=>?_) (fun h=>?_) | refine kn (fun h=>?_) (fun h=>?_) | refine ko (fun h=>?_) (fun h=>?_))<;>(try simp only[decide_eq_true_eq,decide_eq_false_iff_not,Bool.not_eq_true',Bool.not_eq_false',Bool.and_eq_true,Bool.or_eq_true]at h)<;>(try simp[ah,ai,ae,af,ad, *,Ck]))
theorem Ux(bg:UInt8)(aP:UInt32)(aO:UInt8)(aT:Int)(aW:Int)(kF:UInt8)(kE:UInt32)(k8:UInt8)(jd:Int)(h0 : -4611686018427387904<jd)(h1:jd<4611686018427387904):bj env 176 [.agg [a8 bg,aF aP,a8 aO,aI aT,aI aW],.agg [a8 kF,aF kE,a8 k8,aI jd]]=some (if hasB (⟨⟨⟨bg,aP,aO⟩,aT⟩,aW⟩:zL) (⟨⟨kF,kE,k8⟩,jd⟩:eY) then .tup [aI (jd - aT),aB true] else .tup [aI 0,aB false]):=by
 refine aJ (fn:=Tryz.f176) (c:=BE) rfl (by kernel_rfl) (by kernel_rfl) (by kernel_rfl) (by kernel_rfl) ?_;refine GJ _ _ _ _ fun g=>?_
 cases hb:iO (⟨⟨⟨bg,aP,aO⟩,aT⟩,aW⟩:zL) with
 | false =>
  have e:hasB (⟨⟨⟨bg,aP,aO⟩,aT⟩,aW⟩:zL) (⟨⟨kF,kE,k8⟩,jd⟩:eY)=false:=by simp[hasB,hb]
  simp[ah,ai,ae,af,ad, *,nY]
 | true =>
  have hn:=kU hb
  simp only at hn
  have w1:=IntWalk.i64_in (jd - aT) (by omega)
  have w2:=IntWalk.i64_in (aT+(jd - aT)) (by omega)
  have e0:aT+(jd - aT)=jd:=by omega
  have w3:=IntWalk.i64_in jd (by omega)
  rcases Int.lt_or_le (jd - aT) 0 with c1 | c1
  ·have e:hasB (⟨⟨⟨bg,aP,aO⟩,aT⟩,aW⟩:zL) (⟨⟨kF,kE,k8⟩,jd⟩:eY)=false:=by
    have : ¬aT≤jd:=by omega
    simp[hasB,this]
   simp[ah,ai,ae,af,ad, *,nY]
  ·have c1' : ¬jd - aT<0:=by omega
   rcases Int.lt_or_le (jd - aT) aW with c2 | c2
   rotate_left
   ·have e:hasB (⟨⟨⟨bg,aP,aO⟩,aT⟩,aW⟩:zL) (⟨⟨kF,kE,k8⟩,jd⟩:eY)=false:=by
     have : ¬jd<aT+aW:=by omega
     simp[hasB,this]
    simp[ah,ai,ae,af,ad, *,nY]
   ·have c2' : ¬aW≤jd - aT:=by omega
    have c3:aT≤jd:=by omega
    have c4:jd<aT+aW:=by omega
    have hS:decide ((⟨bg,aP,aO⟩:zU)=⟨kF,kE,k8⟩)=(decide (kF=bg)&&decide (kE=aP)&&decide (k8=aO)):=by
     simp[Bool.and_assoc,eq_comm]
    have e:hasB (⟨⟨⟨bg,aP,aO⟩,aT⟩,aW⟩:zL) (⟨⟨kF,kE,k8⟩,jd⟩:eY)=(decide (kF=bg)&&decide (kE=aP)&&decide (k8=aO)):=by
     rw[←hS];simp only[hasB,hb,c3,c4,decide_true,Bool.and_true,Bool.true_and]
    rw[e]
    clear e hS
    cases hA:(decide (kF=bg)&&decide (kE=aP)&&decide (k8=aO)) with
    | false=>simp[ah,ai,ae,af,ad, *,nY,lC,fL]
    | true=>simp[ah,ai,ae,af,ad, *,nY,lC,fL]
def pA(t:nw):List nw→Nat→Int
 | [],_ => -1
 | a :: l,k=>if t=a then k else pA t l (k+1)
theorem Hq(t:nw)(l:List nw) : ∀k:Nat,(0≤pA t l k↔t∈l):=by
 induction l with
 | nil=>intro k;simp[pA]
 | cons a l ih =>
  intro k
  unfold pA
  by_cases h:t=a
  ·simp[h]
  ·rw[if_neg h,ih];simp[h]
theorem FV{x0:AV}{Q:AV→ab→Prop}{l:List nw}(hx:Sl 2 (vQ l) x0)(hl:l.length<4611686018427387904){a:UInt8}{b:UInt32}{r3:Ref}{H:ab}(hB:H.get r3=some ⟨2,[.agg [a8 a,aF b]],false,false⟩) :
 ∀(s:List nw)(k:Nat)(i:Int),l.drop k=s→k≤l.length→i=k→(∀y,y=aI (pA ⟨a,b⟩ s k)→Q y H) →
 bW env Tryz.f173 0 bz [(8,aI i),(0,x0),(3,.ptr r3 0 0),(7,aI l.length)] H Q:=by
 intro s
 induction s with
 | nil =>
  rintro k i hs hk rfl hQ
  obtain rfl:=drop_nil hs hk
  refine cX _ _ _ _ _ _ fun g=>?_
  simp[ah,ai,ae,af,ad, *,bA]
  all_goals exact hQ _ rfl
 | cons t s ih =>
  rintro k i hs hk rfl hQ
  obtain⟨t1,t2⟩:=t
  obtain⟨hlt,hg,hs',hg'⟩:=drop_cons hs
  refine cX _ _ _ _ _ _ fun g=>?_
  have e3:=IntWalk.i64_in ((k:Int)+1) (by omega)
  have hT:((⟨a,b⟩:nw)=⟨t1,t2⟩)=((decide (a=t1)&&decide (b=t2))=true):=by simp
  cases hA:(decide (a=t1)&&decide (b=t2)) with
  | true =>
   rw[hA]at hT
   have e:pA ⟨a,b⟩ (⟨t1,t2⟩ :: s) k=k:=by unfold pA;rw[if_pos (by rw[hT])]
   clear hT
   simp[ah,ai,ae,af,ad, *,bA,hx.idx,vQ,lC,fL]
   all_goals exact hQ _ (by simp[e])
  | false =>
   rw[hA]at hT
   have e:pA ⟨a,b⟩ (⟨t1,t2⟩ :: s) k=pA ⟨a,b⟩ s (k+1):=by
    rw[pA,if_neg (by rw[hT];simp)]
   clear hT
   simp[ah,ai,ae,af,ad, *,bA,hx.idx,vQ,lC,fL]
   exact ih (k+1) _ hs' (by omega) (by simp) (fun y ey=>hQ y (by rw[ey,e]))
section
variable{x:AV}{l:List nw}(hx:Sl 2 (vQ l) x)(hl:l.length<4611686018427387904)
include hx hl
theorem K1(a:UInt8)(b:UInt32):bj env 173 [x,.agg [a8 a,aF b]]=some (aI (pA ⟨a,b⟩ l 0)):=by
 refine aJ (fn:=Tryz.f173) (c:=b7) rfl (by kernel_rfl) (by kernel_rfl) (by kernel_rfl) (by kernel_rfl) ?_;refine fl _ _ _ _ fun g=>?_
 have h:=hx.len
 simp[ah,ai,ae,af,ad, *,dx]
 exact FV hx hl (a:=a) (b:=b) (by simp) l 0 _ rfl (by omega) rfl (fun y e=>by simp[e])
theorem tw(a:UInt8)(b:UInt32):bj env 171 [x,.agg [a8 a,aF b]]=some (aB (decide (⟨a,b⟩∈l))):=by
 refine aJ (fn:=Tryz.f171) (c:=cS) rfl (by kernel_rfl) (by kernel_rfl) (by kernel_rfl) (by kernel_rfl) ?_;refine eU _ _ _ _ fun g=>?_
 have h:=K1 hx hl a b
 have e:=Hq ⟨a,b⟩ l 0
 simp[ah,ai,ae,af,ad, *,cT,hx.r]
end
structure CD (r r7 q:Ref) (c:Option Nat) (info:AV) (H:ab) (out:List nw):Prop where
 fr:Fr H
 mark:H.get r=some (hZ 0 info)
 box:H.get r7=some ⟨1,[.cG q 0 out.length c],false,false⟩
 row:H.get q=some ⟨2,vQ out,true,false⟩
 cap:(c=none∧q.d=2∧q.t=25∧2≤out.length)∨(c=some out.length∧out.length=1)
 n1:r7≠r
 n2:q≠r
 n3:q≠r7
theorem Hg{r r7 q:Ref}{c:Option Nat}{tm:List AV}{H:ab}{out:List nw}{ps:List Tmp}(hps:ps=[17])(htm:cL tm 7 = .ptr r7 0 0)(hI:CD r r7 q c (.lp 0 27 ps dC dB tm) H out)(hlen:out.length<1000000)(a:UInt8)(b:UInt32) :
 ∃y H',bR env 1 (.yld r) [.agg [a8 a,aF b]] H=some (y,H')∧(y=aB true ∧∃q' c',CD r r7 q' c' (.lp 0 27 ps dC dB tm) H' (xN out ⟨a,b⟩)):=by
 subst hps
 refine JT (fn:=Tryz.f172) (dep:=1) hI.mark (by kernel_rfl) rfl rfl (by kernel_rfl) (by kernel_rfl) ?_
 rw[←Fy (s:=cL (qM tm [17] [.agg [a8 a,aF b]])) (l:=[(7,.ptr r7 0 0),(17,.agg [a8 a,aF b])]) (by
  intro p hp
  simp only[List.mem_cons,List.not_mem_nil,or_false]at hp
  rcases hp with rfl | rfl
  ·show cL (rZ tm 17 _) 7=_
   rw[kT]
   simpa using htm
  ·show cL (rZ tm 17 _) 17=_
   rw[kT]
   simp)]
 refine(uQ r _ _ _ _ fun g=>?_).h _
 obtain⟨fr,mark,box,row,cap,n1,n2,n3⟩:=hI
 have n1':=n1.symm
 have n2':=n2.symm
 have n3':=n3.symm
 have l1:(H.get r).isSome=true:=by rw[mark];rfl
 have l2:(H.get r7).isSome=true:=by rw[box];rfl
 have l3:(H.get q).isSome=true:=by rw[row];rfl
 have f1:out.length+1≤17592186044416:=by omega
 have f2:(out.length+1) * 8≤140737488355328:=by omega
 have ha:(⟨a,b⟩:nw) ∉ out→xN out ⟨a,b⟩=out++[⟨a,b⟩]:=fun h=>by unfold xN;rw[if_neg h]
 rcases cap with ⟨rfl,q1,q2,q3⟩ | ⟨rfl,q3'⟩
 ·obtain⟨qd,qt,qg,qk⟩:=q
  simp only at q1 q2
  subst q1 q2
  have hc:=tw (x := .cm 2 (vQ out) none) (Sl.mk _ _) (by omega) a b
  by_cases hm:(⟨a,b⟩:nw)∈out
  ·have e:xN out ⟨a,b⟩=out:=by unfold xN;rw[if_pos hm]
   simp[ah,ai,ae,af,ad, *,gI,ql,ab.get_put]
   refine⟨_,rfl,_,none,⟨by simp(maxDischargeDepth:=12) [ab.get_put,aq,an,Fr.nil,aD,ah,ai,ae,af,ar,ao,ad, *],by simp(maxDischargeDepth:=12) [ab.get_put,aq,an,Fr.nil,aD,ah,ai,ae,af,ar,ao,ad, *],by simp(maxDischargeDepth:=12) [ab.get_put,aq,an,Fr.nil,aD,ah,ai,ae,af,ar,ao,ad, *],by simp(maxDischargeDepth:=12) [ab.get_put,aq,an,Fr.nil,aD,ah,ai,ae,af,ar,ao,ad, *],.inl ⟨rfl,rfl,rfl,by first | exact q3 | (rw[e];exact q3)⟩,n1,n2,n3⟩⟩
  ·replace ha:=ha hm
   simp[ah,ai,ae,af,ad, *,gI,ql,ab.get_put]
   refine⟨_,rfl,⟨2,25,H.gen 2 25,0⟩,none,⟨by simp(maxDischargeDepth:=12) [ab.get_put,aq,an,Fr.nil,aD,ah,ai,ae,af,ar,ao,ad, *],by simp(maxDischargeDepth:=12) [ab.get_put,aq,an,Fr.nil,aD,ah,ai,ae,af,ar,ao,ad, *],by simp(maxDischargeDepth:=12) [ab.get_put,aq,an,Fr.nil,aD,ah,ai,ae,af,ar,ao,ad, *],?_,.inl ⟨rfl,rfl,rfl,by simp[ha];omega⟩,by simp(maxDischargeDepth:=12) [ab.get_put,aq,an,Fr.nil,aD,ah,ai,ae,af,ar,ao,ad, *],by simp(maxDischargeDepth:=12) [ab.get_put,aq,an,Fr.nil,aD,ah,ai,ae,af,ar,ao,ad, *],by simp(maxDischargeDepth:=12) [ab.get_put,aq,an,Fr.nil,aD,ah,ai,ae,af,ar,ao,ad, *]⟩⟩
   simp[ab.get_put,vQ,ha]
 ·have q3:out.length≤1∧1≤out.length:=by omega
  clear q3'
  have hc:=tw (x := .cm 2 (vQ out) (some out.length)) (.inr ⟨_,rfl,by simp⟩) (by omega) a b
  by_cases hm:(⟨a,b⟩:nw)∈out
  ·have e:xN out ⟨a,b⟩=out:=by unfold xN;rw[if_pos hm]
   simp[ah,ai,ae,af,ad, *,gI,ql,ab.get_put]
   refine⟨_,rfl,_,some out.length,⟨by simp(maxDischargeDepth:=12) [ab.get_put,aq,an,Fr.nil,aD,ah,ai,ae,af,ar,ao,ad, *],by simp(maxDischargeDepth:=12) [ab.get_put,aq,an,Fr.nil,aD,ah,ai,ae,af,ar,ao,ad, *],by simp(maxDischargeDepth:=12) [ab.get_put,aq,an,Fr.nil,aD,ah,ai,ae,af,ar,ao,ad, *],by simp(maxDischargeDepth:=12) [ab.get_put,aq,an,Fr.nil,aD,ah,ai,ae,af,ar,ao,ad, *],.inr ⟨by first | rfl | rw[e],by first | omega | (rw[e];omega)⟩,n1,n2,n3⟩⟩
  ·replace ha:=ha hm
   simp[ah,ai,ae,af,ad, *,gI,ql,ab.get_put]
   refine⟨_,rfl,⟨2,25,H.gen 2 25,0⟩,none,⟨by simp(maxDischargeDepth:=12) [ab.get_put,aq,an,Fr.nil,aD,ah,ai,ae,af,ar,ao,ad, *],by simp(maxDischargeDepth:=12) [ab.get_put,aq,an,Fr.nil,aD,ah,ai,ae,af,ar,ao,ad, *],by simp(maxDischargeDepth:=12) [ab.get_put,aq,an,Fr.nil,aD,ah,ai,ae,af,ar,ao,ad, *],?_,.inl ⟨rfl,rfl,rfl,by simp[ha];omega⟩,by simp(maxDischargeDepth:=12) [ab.get_put,aq,an,Fr.nil,aD,ah,ai,ae,af,ar,ao,ad, *],by simp(maxDischargeDepth:=12) [ab.get_put,aq,an,Fr.nil,aD,ah,ai,ae,af,ar,ao,ad, *],by simp(maxDischargeDepth:=12) [ab.get_put,aq,an,Fr.nil,aD,ah,ai,ae,af,ar,ao,ad, *]⟩⟩
   simp[ab.get_put,vQ,ha]
theorem CD.cons{r r7 q:Ref}{c:Option Nat}{info:AV}{H:ab}{out:List nw}(h:CD r r7 q c info H out)(d t:Nat)(b:Option bJ):CD r r7 q c info ((⟨d,t,H.gen d t,0⟩,b) :: H) out:=by
 obtain⟨fr,mark,box,row,cap,n1,n2,n3⟩:=h
 have l1:(H.get r).isSome=true:=by rw[mark];rfl
 have l2:(H.get r7).isSome=true:=by rw[box];rfl
 have l3:(H.get q).isSome=true:=by rw[row];rfl
 exact⟨by simp(maxDischargeDepth:=12) [ab.get_put,aq,an,Fr.nil,aD,ah,ai,ae,af,ar,ao,ad, *],by simp(maxDischargeDepth:=12) [ab.get_put,aq,an,Fr.nil,aD,ah,ai,ae,af,ar,ao,ad, *],by simp(maxDischargeDepth:=12) [ab.get_put,aq,an,Fr.nil,aD,ah,ai,ae,af,ar,ao,ad, *],by simp(maxDischargeDepth:=12) [ab.get_put,aq,an,Fr.nil,aD,ah,ai,ae,af,ar,ao,ad, *],cap,n1,n2,n3⟩
theorem Fi{r r7:Ref}{tm:List AV}(htm:cL tm 7 = .ptr r7 0 0){l:List (bQ × AV)}{x9:AV}(hx:Sl 17 (eJ l) x9)(hall : ∀p∈l,He p)(hl:l.length<100000)(kF:UInt8)(kE:UInt32)(k8:UInt8)(jd:Int)(hb0 : -4611686018427387904<jd)(hb1:jd<4611686018427387904)(v1:UInt8)(v2:UInt32){Q:AV→ab→Prop} :
 ∀(s:List (bQ × AV)) (k:Nat) (i:Int) (out:List nw) (q:Ref) (c:Option Nat) (H:ab),l.drop k=s→k≤l.length→i=k→out.length≤k+1 →
 CD r r7 q c (.lp 0 27 [17] dC dB tm) H out →
 (∀y q' c' H',CD r r7 q' c' (.lp 0 27 [17] dC dB tm) H' (wX out (opsOf s) (⟨⟨kF,kE,k8⟩,jd⟩:eY) ⟨v1,v2⟩)→Q y H') →
 bW env Tryz.f175 (0+1) jh [(11,aI i),(0,.yld r),(3,.iptr 2 [.agg [a8 v1,aF v2]] 0 0),(2,.iptr 4 [.agg [a8 kF,aF kE,a8 k8,aI jd]] 0 0),(9,x9),(10,aI l.length)] H Q:=by
 intro s
 induction s with
 | nil =>
  rintro k i out q c H hs hk rfl ho hI hQ
  obtain rfl:=drop_nil hs hk
  refine oS _ _ _ _ _ _ _ _ _ fun g=>?_
  simp[ah,ai,ae,af,ad, *,fe]
  exact hQ _ _ _ _ hI
 | cons p s ih =>
  rintro k i out q c H hs hk rfl ho hI hQ
  obtain⟨hlt,hg,hs',hg'⟩:=drop_cons hs
  have hp:=hall p (by rw[←hg];exact List.getElem_mem _)
  obtain⟨⟨bg,⟨aP,aO,aT⟩,aW,⟨⟨⟨ba,aZ,bc⟩,bf⟩,au⟩,⟨⟨az,ay,ax⟩,aw⟩,⟨aC,aA⟩,al⟩,x⟩:=p
  obtain⟨hpx,hpl⟩:=hp
  simp only at hpx hpl
  refine oS _ _ _ _ _ _ _ _ _ fun g=>?_
  have e3:=IntWalk.i64_in ((k:Int)+1) (by omega)
  have hh:=Ux ba aZ bc bf au kF kE k8 jd hb0 hb1
  have hI2:=hI.cons 1 6 (some ⟨17,[.agg [a8 bg,a8 aP,aF aO,a8 aT,aI aW,a8 ba,aF aZ,a8 bc,aI bf,aI au,a8 az,aF ay,a8 ax,aI aw,a8 aC,aF aA,x]],false,false⟩)
  have hmf:wX out (opsOf (((⟨bg,⟨aP,aO,aT⟩,aW,⟨⟨⟨ba,aZ,bc⟩,bf⟩,au⟩,⟨⟨az,ay,ax⟩,aw⟩,⟨aC,aA⟩,al⟩:bQ),x) :: s)) (⟨⟨kF,kE,k8⟩,jd⟩:eY) ⟨v1,v2⟩=wX (if nK (⟨bg,⟨aP,aO,aT⟩,aW,⟨⟨⟨ba,aZ,bc⟩,bf⟩,au⟩,⟨⟨az,ay,ax⟩,aw⟩,⟨aC,aA⟩,al⟩:bQ) (⟨⟨kF,kE,k8⟩,jd⟩:eY) ⟨v1,v2⟩ then xN out ⟨aC,aA⟩ else out) (opsOf s) (⟨⟨kF,kE,k8⟩,jd⟩:eY) ⟨v1,v2⟩:=rfl
  have hfr:=hI.fr
  by_cases hk3:bg=3
  rotate_left
  ·have hr:nK (⟨bg,⟨aP,aO,aT⟩,aW,⟨⟨⟨ba,aZ,bc⟩,bf⟩,au⟩,⟨⟨az,ay,ax⟩,aw⟩,⟨aC,aA⟩,al⟩:bQ) (⟨⟨kF,kE,k8⟩,jd⟩:eY) ⟨v1,v2⟩=false:=by simp[nK,hk3]
   rw[hr,if_neg (by decide)]at hmf
   cases hb:hasB ⟨⟨⟨ba,aZ,bc⟩,bf⟩,au⟩ (⟨⟨kF,kE,k8⟩,jd⟩:eY)<;>simp[ah,ai,ae,af,ad, *,fe,hx.idx,eJ,Ed,hpx.r]
   all_goals exact ih (k+1) _ out q c _ hs' (by omega) (by simp) (by omega) hI2 (fun y q' c' H' hm=>hQ y q' c' H' (by rw[hmf];exact hm))
  ·subst hk3
   cases hb:hasB ⟨⟨⟨ba,aZ,bc⟩,bf⟩,au⟩ (⟨⟨kF,kE,k8⟩,jd⟩:eY) with
   | false =>
    have hr:nK (⟨3,⟨aP,aO,aT⟩,aW,⟨⟨⟨ba,aZ,bc⟩,bf⟩,au⟩,⟨⟨az,ay,ax⟩,aw⟩,⟨aC,aA⟩,al⟩:bQ) (⟨⟨kF,kE,k8⟩,jd⟩:eY) ⟨v1,v2⟩=false:=by simp[nK,hb]
    rw[hr,if_neg (by decide)]at hmf
    simp[ah,ai,ae,af,ad, *,fe,hx.idx,eJ,Ed,hpx.r]
    exact ih (k+1) _ out q c _ hs' (by omega) (by simp) (by omega) hI2 (fun y q' c' H' hm=>hQ y q' c' H' (by rw[hmf];exact hm))
   | true =>
    cases hq:Ck ⟨aP,aO⟩ ⟨v1,v2⟩ with
    | false =>
     have hr:nK (⟨3,⟨aP,aO,aT⟩,aW,⟨⟨⟨ba,aZ,bc⟩,bf⟩,au⟩,⟨⟨az,ay,ax⟩,aw⟩,⟨aC,aA⟩,al⟩:bQ) (⟨⟨kF,kE,k8⟩,jd⟩:eY) ⟨v1,v2⟩=false:=by simp[nK,hb,Ke,hq]
     rw[hr,if_neg (by decide)]at hmf
     simp[ah,ai,ae,af,ad, *,fe,hx.idx,eJ,Ed,hpx.r]
     exact ih (k+1) _ out q c _ hs' (by omega) (by simp) (by omega) hI2 (fun y q' c' H' hm=>hQ y q' c' H' (by rw[hmf];exact hm))
    | true =>
     have hr:nK (⟨3,⟨aP,aO,aT⟩,aW,⟨⟨⟨ba,aZ,bc⟩,bf⟩,au⟩,⟨⟨az,ay,ax⟩,aw⟩,⟨aC,aA⟩,al⟩:bQ) (⟨⟨kF,kE,k8⟩,jd⟩:eY) ⟨v1,v2⟩=true:=by simp[nK,hb,Ke,hq]
     rw[hr,if_pos rfl]at hmf
     obtain⟨y,H',hy,rfl,q',c',hI'⟩:=Hg rfl htm hI2 (by omega) aC aA
     simp[ah,ai,ae,af,ad, *,fe,hx.idx,eJ,Ed,hpx.r,Gq]
     exact ih (k+1) _ _ q' c' _ hs' (by omega) (by simp) (by have:=Gy out ⟨aC,aA⟩;omega) hI' (fun y q' c' H' hm=>hQ y q' c' H' (by rw[hmf];exact hm))
theorem G4{r r7 q:Ref}{c:Option Nat}{tm:List AV}{H:ab}{out:List nw}(htm:cL tm 7 = .ptr r7 0 0){l:List (bQ × AV)}{x:AV}(hx:Sl 17 (eJ l) x)(hall : ∀p∈l,He p)(hl:l.length<100000)(kF:UInt8)(kE:UInt32)(k8:UInt8)(jd:Int)(hb0 : -4611686018427387904<jd)(hb1:jd<4611686018427387904)(v1:UInt8)(v2:UInt32)
 (ho:out.length≤1) (hI:CD r r7 q c (.lp 0 27 [17] dC dB tm) H out) :
 ∃y H',bR env 0 (.fn 175) [.yld r,.iptr 1 [x] 0 0,.iptr 4 [.agg [a8 kF,aF kE,a8 k8,aI jd]] 0 0,.iptr 2 [.agg [a8 v1,aF v2]] 0 0] H=some (y,H') ∧∃q' c',CD r r7 q' c' (.lp 0 27 [17] dC dB tm) H' (wX out (opsOf l) (⟨⟨kF,kE,k8⟩,jd⟩:eY) ⟨v1,v2⟩):=by
 refine lL (fn:=Tryz.f175) (c:=m9) (by kernel_rfl) (by kernel_rfl) (by kernel_rfl) (by kernel_rfl) (by kernel_rfl) ?_
 refine wz _ _ _ _ _ _ _ fun g=>?_
 simp[ah,ai,ae,af,ad, *,qJ,hx.r]
 exact Fi htm hx hall hl kF kE k8 jd hb0 hb1 v1 v2 l 0 _ out q c H rfl (by omega) rfl (by omega) hI (fun y q' c' H' hm=>⟨q',c',hm⟩)
theorem NL:gA = .code (.rangeFunc (.tmp 16) #[17] dC dB) :: oT:=by kernel_rfl
def Kd(out:List nw):Option Nat:=if out.length=1 then some 1 else none
theorem Ja{l:List (bQ × AV)}{x:AV}(hx:Sl 17 (eJ l) x)(kF:UInt8)(kE:UInt32)(k8:UInt8)(jd:Int)(v1:UInt8)(v2:UInt32):bj env 174 [x,.agg [a8 kF,aF kE,a8 k8,aI jd],.agg [a8 v1,aF v2]]=some (.fn (.func 175) [] [.iptr 1 [x] 0 0,.iptr 4 [.agg [a8 kF,aF kE,a8 k8,aI jd]] 0 0,.iptr 2 [.agg [a8 v1,aF v2]] 0 0]):=by
 refine aJ (fn:=Tryz.f174) (c:=sU) rfl (by kernel_rfl) (by kernel_rfl) (by kernel_rfl) (by kernel_rfl) ?_;refine zq _ _ _ _ _ fun g=>?_
 simp[ah,ai,ae,af,ad, *,s7,hx.r]
theorem Qf{l:List (bQ × AV)}{x:AV}(hx:Sl 17 (eJ l) x)(hall : ∀p∈l,He p)(hl:l.length<100000)(kF:UInt8)(kE:UInt32)(k8:UInt8)(jd:Int)(hb0 : -4611686018427387904<jd)(hb1:jd<4611686018427387904)(v1:UInt8)(v2:UInt32) :
 bj env 172 [x,.agg [a8 kF,aF kE,a8 k8,aI jd],.agg [a8 v1,aF v2]]=some (.cm 2 (vQ (u9 (opsOf l) (⟨⟨kF,kE,k8⟩,jd⟩:eY) ⟨v1,v2⟩)) (Kd (u9 (opsOf l) (⟨⟨kF,kE,k8⟩,jd⟩:eY) ⟨v1,v2⟩))):=by
 refine aJ (fn:=Tryz.f172) (c:=qW) rfl (by kernel_rfl) (by kernel_rfl) (by kernel_rfl) (by kernel_rfl) ?_;refine BY _ _ _ _ _ fun g=>?_
 have hr:=Ja hx kF kE k8 jd v1 v2
 have hcap : ∀ {r r7 q c info H out},CD r r7 q c info H out→c=Kd out:=by
  intro r r7 q c info H out h
  rcases h.cap with ⟨h1,_,_,h2⟩ | ⟨h1,h2⟩
  ·rw[h1,Kd,if_neg (by omega)]
  ·rw[h1,Kd,if_pos h2,h2]
 simp[ah,ai,ae,af,ad, *,vF,hx.r]
 rw[NL]
 refine⟨fun g'=>Hw (gi:=175) (first:=[]) (captured:=[.iptr 1 [x] 0 0,.iptr 4 [.agg [a8 kF,aF kE,a8 k8,aI jd]] 0 0,.iptr 2 [.agg [a8 v1,aF v2]] 0 0]) rfl ?_⟩
 intro tm ht
 have e7:cL tm 7 = .ptr ⟨0,7,0,0⟩ 0 0:=(ht 7).trans rfl
 rw[show Tryz.f172.ntmps=27 from by kernel_rfl]
 obtain⟨y,H',hy,q',c',hm⟩:=G4 (r:=⟨0,27,0,0⟩) (r7:=⟨0,7,0,0⟩) (q:=⟨0,12,0,0⟩) (c:=some 1) (tm:=tm) (out:=[⟨kF,kE⟩])
  (H:=(⟨0,27,0,0⟩,some (hZ 0 (.lp 0 27 [17] dC dB tm))) :: [(⟨0,7,0,0⟩,some ⟨1,[.cG ⟨0,12,0,0⟩ 0 1 (some 1)],false,false⟩),(⟨0,12,0,0⟩,some ⟨2,[.agg [a8 kF,aF kE]],true,false⟩),(⟨0,5,0,0⟩,some ⟨2,[.agg [a8 v1,aF v2]],false,false⟩),(⟨0,4,0,0⟩,some ⟨4,[.agg [a8 kF,aF kE,a8 k8,aI jd]],false,false⟩)])
  e7 hx hall hl kF kE k8 jd hb0 hb1 v1 v2 (by simp) ⟨by simp(maxDischargeDepth:=12) [aq,an,Fr.nil,aD,ah,ai,ae,af,ar,ao,ad, *],by simp,by simp,by simp[vQ],.inr ⟨rfl,rfl⟩,by decide,by decide,by decide⟩
 refine⟨y,H',0,_,by simpa using hy,by simp only[ab.F6,ab.Og];rw[ql];exact(congrArg Xd hm.mark).trans (xf _ _),.inl ⟨rfl,?_⟩⟩
 have hs:=Fy (s:=It g' [(16,AV.fn (.func 175) [] [.iptr 1 [x] 0 0,.iptr 4 [.agg [a8 kF,aF kE,a8 k8,aI jd]] 0 0,.iptr 2 [.agg [a8 v1,aF v2]] 0 0]),(7,AV.ptr ⟨0,7,0,0⟩ 0 0)]) (l:=[(7,AV.ptr ⟨0,7,0,0⟩ 0 0)]) (by
  intro p hp
  simp only[List.mem_cons,List.not_mem_nil,or_false]at hp
  subst hp
  rfl)
 rw[←hs]
 refine(tl _ _ _ fun g=>?_).h _
 have n1:(⟨0,7,0,0⟩:Ref)≠⟨0,27,0,0⟩:=hm.n1
 have n2:=hm.n2
 have hbx:=hm.box
 have hrw:=hm.row
 have hc:=hcap hm
 subst hc
 have hle:(wX [⟨kF,kE⟩] (opsOf l) (⟨⟨kF,kE,k8⟩,jd⟩:eY) ⟨v1,v2⟩)=u9 (opsOf l) (⟨⟨kF,kE,k8⟩,jd⟩:eY) ⟨v1,v2⟩:=rfl
 rw[hle]at hbx hrw
 simp[ah,ai,ae,af,ad, *,oG,ab.get_put]
end Go.Proofs.YtdbiffjdomokfaaGreat
