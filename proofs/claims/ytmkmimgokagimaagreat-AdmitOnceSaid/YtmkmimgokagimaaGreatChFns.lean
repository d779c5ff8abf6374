/-
  Chains: labels, spans, what an element's raises are. No statement of a seat is proved here.
-/
import Derived.Test.YtmkmimgokagimaaGreatMOpFns
import Derived.Test.YtmkmimgokagimaaGreatLeVc3
import Derived.Test.YtmkmimgokagimaaGreatMChMath
set_option linter.unusedVariables false
set_option linter.unusedSimpArgs false
set_option linter.unusedSectionVars false
set_option linter.unnecessarySimpa false
set_option maxRecDepth 100000
namespace Go.Proofs.YtmkmimgokagimaaGreat
open Go.Ab
attribute [local simp] bj aL aF bg bf keep thr bx aT bc da cZ cJ bD aD bM List.take_of_length_le
@[simp] theorem X9(a:UInt8)(b:UInt32)(c:UInt8)(d:UInt32):limf env 47 [.agg [a8 a,a32 b],.agg [a8 c,a32 d]]=some (aB (leqL ⟨a,b⟩ ⟨c,d⟩)):=by
 refine aw (fn:=Tryz.f47) (c:=rR) rfl (by kernel_rfl) (by kernel_rfl) (by kernel_rfl) (by kernel_rfl) ?_;refine xi _ _ _ _ fun g=>?_
 simp[af,ah,ad,ae,ab, *,sn]
 repeat' ((first | refine nH (fun h=>?_) (fun h=>?_) | refine lu (fun h=>?_) (fun h=>?_) | refine lx (fun h=>?_) (fun h=>?_) | refine lg (fun h=>?_) (fun h=>?_) | refine lj (fun h=>?_) (fun h=>?_))<;>(try simp only[decide_eq_true_eq,decide_eq_false_iff_not,Bool.not_eq_true',Bool.not_eq_false',Bool.and_eq_true,Bool.or_eq_true]at h)<;>(try simp[af,ah,ad,ae,ab, *,leqL]))
theorem Wt(a_1:UInt8)(a_2:UInt32)(a_3:UInt8)(a_4:Int)(a_5:Int)(b_1:UInt8)(b_2:UInt32)(b_3:UInt8)(b_4:Int)(h0 : -4611686018427387904<b_4)(h1:b_4<4611686018427387904):limf env 251 [.agg [a8 a_1,a32 a_2,a8 a_3,aI a_4,aI a_5],.agg [a8 b_1,a32 b_2,a8 b_3,aI b_4]]=some (if hasB (⟨⟨⟨a_1,a_2,a_3⟩,a_4⟩,a_5⟩:Spn) (⟨⟨b_1,b_2,b_3⟩,b_4⟩:Idd) then .tup [aI (b_4 - a_4),aB true] else .tup [aI 0,aB false]):=by
 refine aw (fn:=Tryz.f251) (c:=BO) rfl (by kernel_rfl) (by kernel_rfl) (by kernel_rfl) (by kernel_rfl) ?_;refine GQ _ _ _ _ fun g=>?_
 cases hb:kR (⟨⟨⟨a_1,a_2,a_3⟩,a_4⟩,a_5⟩:Spn) with
 | false =>
  have e:hasB (⟨⟨⟨a_1,a_2,a_3⟩,a_4⟩,a_5⟩:Spn) (⟨⟨b_1,b_2,b_3⟩,b_4⟩:Idd)=false:=by simp[hasB,hb]
  simp[af,ah,ad,ae,ab, *,m4]
 | true =>
  have hn:=lX hb
  simp only at hn
  have w1:=IntWalk.i64_in (b_4 - a_4) (by omega)
  have w2:=IntWalk.i64_in (a_4+(b_4 - a_4)) (by omega)
  have e0:a_4+(b_4 - a_4)=b_4:=by omega
  have w3:=IntWalk.i64_in b_4 (by omega)
  rcases Int.lt_or_le (b_4 - a_4) 0 with c1 | c1
  ·have e:hasB (⟨⟨⟨a_1,a_2,a_3⟩,a_4⟩,a_5⟩:Spn) (⟨⟨b_1,b_2,b_3⟩,b_4⟩:Idd)=false:=by
    have : ¬a_4≤b_4:=by omega
    simp[hasB,this]
   simp[af,ah,ad,ae,ab, *,m4]
  ·have c1' : ¬b_4 - a_4<0:=by omega
   rcases Int.lt_or_le (b_4 - a_4) a_5 with c2 | c2
   rotate_left
   ·have e:hasB (⟨⟨⟨a_1,a_2,a_3⟩,a_4⟩,a_5⟩:Spn) (⟨⟨b_1,b_2,b_3⟩,b_4⟩:Idd)=false:=by
     have : ¬b_4<a_4+a_5:=by omega
     simp[hasB,this]
    simp[af,ah,ad,ae,ab, *,m4]
   ·have c2' : ¬a_5≤b_4 - a_4:=by omega
    have c3:a_4≤b_4:=by omega
    have c4:b_4<a_4+a_5:=by omega
    have hS:decide ((⟨a_1,a_2,a_3⟩:Han)=⟨b_1,b_2,b_3⟩)=(decide (b_1=a_1)&&decide (b_2=a_2)&&decide (b_3=a_3)):=by
     simp[Bool.and_assoc,eq_comm]
    have e:hasB (⟨⟨⟨a_1,a_2,a_3⟩,a_4⟩,a_5⟩:Spn) (⟨⟨b_1,b_2,b_3⟩,b_4⟩:Idd)=(decide (b_1=a_1)&&decide (b_2=a_2)&&decide (b_3=a_3)):=by
     rw[←hS];simp only[hasB,hb,c3,c4,decide_true,Bool.and_true,Bool.true_and]
    rw[e]
    clear e hS
    cases hA:(decide (b_1=a_1)&&decide (b_2=a_2)&&decide (b_3=a_3)) with
    | false=>simp[af,ah,ad,ae,ab, *,m4,eqA,eqFs]
    | true=>simp[af,ah,ad,ae,ab, *,m4,eqA,eqFs]
def rD(t:Lab):List Lab→Nat→Int
 | [],_ => -1
 | a :: l,k=>if t=a then k else rD t l (k+1)
theorem Hq(t:Lab)(l:List Lab) : ∀k:Nat,(0≤rD t l k↔t∈l):=by
 induction l with
 | nil=>intro k;simp[rD]
 | cons a l ih =>
  intro k
  unfold rD
  by_cases h:t=a
  ·simp[h]
  ·rw[if_neg h,ih];simp[h]
theorem E5{x0:AV}{Q:AV→Heap→Prop}{l:List Lab}(hx:Sl 2 (labs l) x0)(hl:l.length<4611686018427387904){a:UInt8}{b:UInt32}{r3:Ref}{H:Heap}(hB:H.get r3=some ⟨2,[.agg [a8 a,a32 b]],false,false⟩) :
 ∀(s:List Lab)(k:Nat)(i:Int),l.drop k=s→k≤l.length→i=k→(∀y,y=aI (rD ⟨a,b⟩ s k)→Q y H) →
 GoL env Tryz.f248 0 aN [(8,aI i),(0,x0),(3,.ptr r3 0 0),(7,aI l.length)] H Q:=by
 intro s
 induction s with
 | nil =>
  rintro k i hs hk rfl hQ
  obtain rfl:=drop_nil hs hk
  refine bX _ _ _ _ _ _ fun g=>?_
  simp[af,ah,ad,ae,ab, *,aO]
  all_goals exact hQ _ rfl
 | cons t s ih =>
  rintro k i hs hk rfl hQ
  obtain⟨t1,t2⟩:=t
  obtain⟨hlt,hg,hs',hg'⟩:=drop_cons hs
  refine bX _ _ _ _ _ _ fun g=>?_
  have e3:=IntWalk.i64_in ((k:Int)+1) (by omega)
  have hT:((⟨a,b⟩:Lab)=⟨t1,t2⟩)=((decide (a=t1)&&decide (b=t2))=true):=by simp
  cases hA:(decide (a=t1)&&decide (b=t2)) with
  | true =>
   rw[hA]at hT
   have e:rD ⟨a,b⟩ (⟨t1,t2⟩ :: s) k=k:=by unfold rD;rw[if_pos (by rw[hT])]
   clear hT
   simp[af,ah,ad,ae,ab, *,aO,hx.idx,labs,eqA,eqFs]
   all_goals exact hQ _ (by simp[e])
  | false =>
   rw[hA]at hT
   have e:rD ⟨a,b⟩ (⟨t1,t2⟩ :: s) k=rD ⟨a,b⟩ s (k+1):=by
    rw[rD,if_neg (by rw[hT];simp)]
   clear hT
   simp[af,ah,ad,ae,ab, *,aO,hx.idx,labs,eqA,eqFs]
   exact ih (k+1) _ hs' (by omega) (by simp) (fun y ey=>hQ y (by rw[ey,e]))
section
variable{x:AV}{l:List Lab}(hx:Sl 2 (labs l) x)(hl:l.length<4611686018427387904)
include hx hl
theorem Ln(a:UInt8)(b:UInt32):limf env 248 [x,.agg [a8 a,a32 b]]=some (aI (rD ⟨a,b⟩ l 0)):=by
 refine aw (fn:=Tryz.f248) (c:=bB) rfl (by kernel_rfl) (by kernel_rfl) (by kernel_rfl) (by kernel_rfl) ?_;refine dO _ _ _ _ fun g=>?_
 have h:=hx.len
 simp[af,ah,ad,ae,ab, *,cl]
 exact E5 hx hl (a:=a) (b:=b) (by simp) l 0 _ rfl (by omega) rfl (fun y e=>by simp[e])
theorem tY(a:UInt8)(b:UInt32):limf env 246 [x,.agg [a8 a,a32 b]]=some (aB (decide (⟨a,b⟩∈l))):=by
 refine aw (fn:=Tryz.f246) (c:=bT) rfl (by kernel_rfl) (by kernel_rfl) (by kernel_rfl) (by kernel_rfl) ?_;refine dB _ _ _ _ fun g=>?_
 have h:=Ln hx hl a b
 have e:=Hq ⟨a,b⟩ l 0
 simp[af,ah,ad,ae,ab, *,bU,hx.r]
end
structure MInv (r r7 q:Ref) (c:Option Nat) (info:AV) (H:Heap) (out:List Lab):Prop where
 fr:Fr H
 mark:H.get r=some (kg 0 info)
 box:H.get r7=some ⟨1,[.osl q 0 out.length c],false,false⟩
 row:H.get q=some ⟨2,labs out,true,false⟩
 cap:(c=none∧q.d=2∧q.t=25∧2≤out.length)∨(c=some out.length∧out.length=1)
 n1:r7≠r
 n2:q≠r
 n3:q≠r7
theorem Hi{r r7 q:Ref}{c:Option Nat}{tm:List AV}{H:Heap}{out:List Lab}{ps:List Tmp}(hps:ps=[17])(htm:tget tm 7 = .ptr r7 0 0)(hI:MInv r r7 q c (.lp 0 27 ps cD cC tm) H out)(hlen:out.length<1000000)(a:UInt8)(b:UInt32) :
 ∃y H',limt env 1 (.yld r) [.agg [a8 a,a32 b]] H=some (y,H')∧(y=aB true ∧∃q' c',MInv r r7 q' c' (.lp 0 27 ps cD cC tm) H' (addL out ⟨a,b⟩)):=by
 subst hps
 refine JH (fn:=Tryz.f247) (dep:=1) hI.mark (by kernel_rfl) rfl rfl (by kernel_rfl) (by kernel_rfl) ?_
 rw[←Ge (s:=tget (tl tm [17] [.agg [a8 a,a32 b]])) (l:=[(7,.ptr r7 0 0),(17,.agg [a8 a,a32 b])]) (by
  intro p hp
  simp only[List.mem_cons,List.not_mem_nil,or_false]at hp
  rcases hp with rfl | rfl
  ·show tget (tset tm 17 _) 7=_
   rw[oX]
   simpa using htm
  ·show tget (tset tm 17 _) 17=_
   rw[oX]
   simp)]
 refine(tU r _ _ _ _ fun g=>?_).h _
 obtain⟨fr,mark,box,row,cap,n1,n2,n3⟩:=hI
 have n1':=n1.symm
 have n2':=n2.symm
 have n3':=n3.symm
 have l1:(H.get r).isSome=true:=by rw[mark];rfl
 have l2:(H.get r7).isSome=true:=by rw[box];rfl
 have l3:(H.get q).isSome=true:=by rw[row];rfl
 have f1:out.length+1≤17592186044416:=by omega
 have f2:(out.length+1) * 8≤140737488355328:=by omega
 have ha:(⟨a,b⟩:Lab) ∉ out→addL out ⟨a,b⟩=out++[⟨a,b⟩]:=fun h=>by unfold addL;rw[if_neg h]
 rcases cap with ⟨rfl,q1,q2,q3⟩ | ⟨rfl,q3'⟩
 ·obtain⟨qd,qt,qg,qk⟩:=q
  simp only at q1 q2
  subst q1 q2
  have hc:=tY (x := .isl 2 (labs out) none) (Sl.mk _ _) (by omega) a b
  by_cases hm:(⟨a,b⟩:Lab)∈out
  ·have e:addL out ⟨a,b⟩=out:=by unfold addL;rw[if_pos hm]
   simp[af,ah,ad,ae,ab, *,fx,rC,Heap.an]
   refine⟨_,rfl,_,none,⟨by simp(maxDischargeDepth:=12) [Heap.an,au,ak,Fr.nil,az,af,ah,ad,ae,ar,ao,ab, *],by simp(maxDischargeDepth:=12) [Heap.an,au,ak,Fr.nil,az,af,ah,ad,ae,ar,ao,ab, *],by simp(maxDischargeDepth:=12) [Heap.an,au,ak,Fr.nil,az,af,ah,ad,ae,ar,ao,ab, *],by simp(maxDischargeDepth:=12) [Heap.an,au,ak,Fr.nil,az,af,ah,ad,ae,ar,ao,ab, *],.inl ⟨rfl,rfl,rfl,by first | exact q3 | (rw[e];exact q3)⟩,n1,n2,n3⟩⟩
  ·replace ha:=ha hm
   simp[af,ah,ad,ae,ab, *,fx,rC,Heap.an]
   refine⟨_,rfl,⟨2,25,H.gen 2 25,0⟩,none,⟨by simp(maxDischargeDepth:=12) [Heap.an,au,ak,Fr.nil,az,af,ah,ad,ae,ar,ao,ab, *],by simp(maxDischargeDepth:=12) [Heap.an,au,ak,Fr.nil,az,af,ah,ad,ae,ar,ao,ab, *],by simp(maxDischargeDepth:=12) [Heap.an,au,ak,Fr.nil,az,af,ah,ad,ae,ar,ao,ab, *],?_,.inl ⟨rfl,rfl,rfl,by simp[ha];omega⟩,by simp(maxDischargeDepth:=12) [Heap.an,au,ak,Fr.nil,az,af,ah,ad,ae,ar,ao,ab, *],by simp(maxDischargeDepth:=12) [Heap.an,au,ak,Fr.nil,az,af,ah,ad,ae,ar,ao,ab, *],by simp(maxDischargeDepth:=12) [Heap.an,au,ak,Fr.nil,az,af,ah,ad,ae,ar,ao,ab, *]⟩⟩
   simp[Heap.an,labs,ha]
 ·have q3:out.length≤1∧1≤out.length:=by omega
  clear q3'
  have hc:=tY (x := .isl 2 (labs out) (some out.length)) (.inr ⟨_,rfl,by simp⟩) (by omega) a b
  by_cases hm:(⟨a,b⟩:Lab)∈out
  ·have e:addL out ⟨a,b⟩=out:=by unfold addL;rw[if_pos hm]
   simp[af,ah,ad,ae,ab, *,fx,rC,Heap.an]
   refine⟨_,rfl,_,some out.length,⟨by simp(maxDischargeDepth:=12) [Heap.an,au,ak,Fr.nil,az,af,ah,ad,ae,ar,ao,ab, *],by simp(maxDischargeDepth:=12) [Heap.an,au,ak,Fr.nil,az,af,ah,ad,ae,ar,ao,ab, *],by simp(maxDischargeDepth:=12) [Heap.an,au,ak,Fr.nil,az,af,ah,ad,ae,ar,ao,ab, *],by simp(maxDischargeDepth:=12) [Heap.an,au,ak,Fr.nil,az,af,ah,ad,ae,ar,ao,ab, *],.inr ⟨by first | rfl | rw[e],by first | omega | (rw[e];omega)⟩,n1,n2,n3⟩⟩
  ·replace ha:=ha hm
   simp[af,ah,ad,ae,ab, *,fx,rC,Heap.an]
   refine⟨_,rfl,⟨2,25,H.gen 2 25,0⟩,none,⟨by simp(maxDischargeDepth:=12) [Heap.an,au,ak,Fr.nil,az,af,ah,ad,ae,ar,ao,ab, *],by simp(maxDischargeDepth:=12) [Heap.an,au,ak,Fr.nil,az,af,ah,ad,ae,ar,ao,ab, *],by simp(maxDischargeDepth:=12) [Heap.an,au,ak,Fr.nil,az,af,ah,ad,ae,ar,ao,ab, *],?_,.inl ⟨rfl,rfl,rfl,by simp[ha];omega⟩,by simp(maxDischargeDepth:=12) [Heap.an,au,ak,Fr.nil,az,af,ah,ad,ae,ar,ao,ab, *],by simp(maxDischargeDepth:=12) [Heap.an,au,ak,Fr.nil,az,af,ah,ad,ae,ar,ao,ab, *],by simp(maxDischargeDepth:=12) [Heap.an,au,ak,Fr.nil,az,af,ah,ad,ae,ar,ao,ab, *]⟩⟩
   simp[Heap.an,labs,ha]
theorem MInv.cons{r r7 q:Ref}{c:Option Nat}{info:AV}{H:Heap}{out:List Lab}(h:MInv r r7 q c info H out)(d t:Nat)(b:Option Blk):MInv r r7 q c info ((⟨d,t,H.gen d t,0⟩,b) :: H) out:=by
 obtain⟨fr,mark,box,row,cap,n1,n2,n3⟩:=h
 have l1:(H.get r).isSome=true:=by rw[mark];rfl
 have l2:(H.get r7).isSome=true:=by rw[box];rfl
 have l3:(H.get q).isSome=true:=by rw[row];rfl
 exact⟨by simp(maxDischargeDepth:=12) [Heap.an,au,ak,Fr.nil,az,af,ah,ad,ae,ar,ao,ab, *],by simp(maxDischargeDepth:=12) [Heap.an,au,ak,Fr.nil,az,af,ah,ad,ae,ar,ao,ab, *],by simp(maxDischargeDepth:=12) [Heap.an,au,ak,Fr.nil,az,af,ah,ad,ae,ar,ao,ab, *],by simp(maxDischargeDepth:=12) [Heap.an,au,ak,Fr.nil,az,af,ah,ad,ae,ar,ao,ab, *],cap,n1,n2,n3⟩
theorem EC{r r7:Ref}{tm:List AV}(htm:tget tm 7 = .ptr r7 0 0){l:List (Opn × AV)}{x9:AV}(hx:Sl 17 (fZ l) x9)(hall : ∀p∈l,okO p)(hl:l.length<100000)(b_1:UInt8)(b_2:UInt32)(b_3:UInt8)(b_4:Int)(hb0 : -4611686018427387904<b_4)(hb1:b_4<4611686018427387904)(v1:UInt8)(v2:UInt32){Q:AV→Heap→Prop} :
 ∀(s:List (Opn × AV)) (k:Nat) (i:Int) (out:List Lab) (q:Ref) (c:Option Nat) (H:Heap),l.drop k=s→k≤l.length→i=k→out.length≤k+1 →
 MInv r r7 q c (.lp 0 27 [17] cD cC tm) H out →
 (∀y q' c' H',MInv r r7 q' c' (.lp 0 27 [17] cD cC tm) H' (Cr out (opsOf s) (⟨⟨b_1,b_2,b_3⟩,b_4⟩:Idd) ⟨v1,v2⟩)→Q y H') →
 GoL env Tryz.f250 (0+1) gY [(11,aI i),(0,.yld r),(3,.iptr 2 [.agg [a8 v1,a32 v2]] 0 0),(2,.iptr 4 [.agg [a8 b_1,a32 b_2,a8 b_3,aI b_4]] 0 0),(9,x9),(10,aI l.length)] H Q:=by
 intro s
 induction s with
 | nil =>
  rintro k i out q c H hs hk rfl ho hI hQ
  obtain rfl:=drop_nil hs hk
  refine m7 _ _ _ _ _ _ _ _ _ fun g=>?_
  simp[af,ah,ad,ae,ab, *,eb]
  exact hQ _ _ _ _ hI
 | cons p s ih =>
  rintro k i out q c H hs hk rfl ho hI hQ
  obtain⟨hlt,hg,hs',hg'⟩:=drop_cons hs
  have hp:=hall p (by rw[←hg];exact List.getElem_mem _)
  obtain⟨⟨a_1,⟨a_2,a_3,a_4⟩,a_5,⟨⟨⟨a_6,a_7,a_8⟩,a_9⟩,a_10⟩,⟨⟨a_11,a_12,a_13⟩,a_14⟩,⟨a_15,a_16⟩,al⟩,x⟩:=p
  obtain⟨hpx,hpl⟩:=hp
  simp only at hpx hpl
  refine m7 _ _ _ _ _ _ _ _ _ fun g=>?_
  have e3:=IntWalk.i64_in ((k:Int)+1) (by omega)
  have hh:=Wt a_6 a_7 a_8 a_9 a_10 b_1 b_2 b_3 b_4 hb0 hb1
  have hI2:=hI.cons 1 6 (some ⟨17,[.agg [a8 a_1,a8 a_2,a32 a_3,a8 a_4,aI a_5,a8 a_6,a32 a_7,a8 a_8,aI a_9,aI a_10,a8 a_11,a32 a_12,a8 a_13,aI a_14,a8 a_15,a32 a_16,x]],false,false⟩)
  have hmf:Cr out (opsOf (((⟨a_1,⟨a_2,a_3,a_4⟩,a_5,⟨⟨⟨a_6,a_7,a_8⟩,a_9⟩,a_10⟩,⟨⟨a_11,a_12,a_13⟩,a_14⟩,⟨a_15,a_16⟩,al⟩:Opn),x) :: s)) (⟨⟨b_1,b_2,b_3⟩,b_4⟩:Idd) ⟨v1,v2⟩=Cr (if o3 (⟨a_1,⟨a_2,a_3,a_4⟩,a_5,⟨⟨⟨a_6,a_7,a_8⟩,a_9⟩,a_10⟩,⟨⟨a_11,a_12,a_13⟩,a_14⟩,⟨a_15,a_16⟩,al⟩:Opn) (⟨⟨b_1,b_2,b_3⟩,b_4⟩:Idd) ⟨v1,v2⟩ then addL out ⟨a_15,a_16⟩ else out) (opsOf s) (⟨⟨b_1,b_2,b_3⟩,b_4⟩:Idd) ⟨v1,v2⟩:=rfl
  have hfr:=hI.fr
  by_cases hk3:a_1=3
  rotate_left
  ·have hr:o3 (⟨a_1,⟨a_2,a_3,a_4⟩,a_5,⟨⟨⟨a_6,a_7,a_8⟩,a_9⟩,a_10⟩,⟨⟨a_11,a_12,a_13⟩,a_14⟩,⟨a_15,a_16⟩,al⟩:Opn) (⟨⟨b_1,b_2,b_3⟩,b_4⟩:Idd) ⟨v1,v2⟩=false:=by simp[o3,hk3]
   rw[hr,if_neg (by decide)]at hmf
   cases hb:hasB ⟨⟨⟨a_6,a_7,a_8⟩,a_9⟩,a_10⟩ (⟨⟨b_1,b_2,b_3⟩,b_4⟩:Idd)<;>simp[af,ah,ad,ae,ab, *,eb,hx.idx,fZ,encO,hpx.r]
   all_goals exact ih (k+1) _ out q c _ hs' (by omega) (by simp) (by omega) hI2 (fun y q' c' H' hm=>hQ y q' c' H' (by rw[hmf];exact hm))
  ·subst hk3
   cases hb:hasB ⟨⟨⟨a_6,a_7,a_8⟩,a_9⟩,a_10⟩ (⟨⟨b_1,b_2,b_3⟩,b_4⟩:Idd) with
   | false =>
    have hr:o3 (⟨3,⟨a_2,a_3,a_4⟩,a_5,⟨⟨⟨a_6,a_7,a_8⟩,a_9⟩,a_10⟩,⟨⟨a_11,a_12,a_13⟩,a_14⟩,⟨a_15,a_16⟩,al⟩:Opn) (⟨⟨b_1,b_2,b_3⟩,b_4⟩:Idd) ⟨v1,v2⟩=false:=by simp[o3,hb]
    rw[hr,if_neg (by decide)]at hmf
    simp[af,ah,ad,ae,ab, *,eb,hx.idx,fZ,encO,hpx.r]
    exact ih (k+1) _ out q c _ hs' (by omega) (by simp) (by omega) hI2 (fun y q' c' H' hm=>hQ y q' c' H' (by rw[hmf];exact hm))
   | true =>
    cases hq:leqL ⟨a_2,a_3⟩ ⟨v1,v2⟩ with
    | false =>
     have hr:o3 (⟨3,⟨a_2,a_3,a_4⟩,a_5,⟨⟨⟨a_6,a_7,a_8⟩,a_9⟩,a_10⟩,⟨⟨a_11,a_12,a_13⟩,a_14⟩,⟨a_15,a_16⟩,al⟩:Opn) (⟨⟨b_1,b_2,b_3⟩,b_4⟩:Idd) ⟨v1,v2⟩=false:=by simp[o3,hb,byL,hq]
     rw[hr,if_neg (by decide)]at hmf
     simp[af,ah,ad,ae,ab, *,eb,hx.idx,fZ,encO,hpx.r]
     exact ih (k+1) _ out q c _ hs' (by omega) (by simp) (by omega) hI2 (fun y q' c' H' hm=>hQ y q' c' H' (by rw[hmf];exact hm))
    | true =>
     have hr:o3 (⟨3,⟨a_2,a_3,a_4⟩,a_5,⟨⟨⟨a_6,a_7,a_8⟩,a_9⟩,a_10⟩,⟨⟨a_11,a_12,a_13⟩,a_14⟩,⟨a_15,a_16⟩,al⟩:Opn) (⟨⟨b_1,b_2,b_3⟩,b_4⟩:Idd) ⟨v1,v2⟩=true:=by simp[o3,hb,byL,hq]
     rw[hr,if_pos rfl]at hmf
     obtain⟨y,H',hy,rfl,q',c',hI'⟩:=Hi rfl htm hI2 (by omega) a_15 a_16
     simp[af,ah,ad,ae,ab, *,eb,hx.idx,fZ,encO,hpx.r,Fw]
     exact ih (k+1) _ _ q' c' _ hs' (by omega) (by simp) (by have:=GJ out ⟨a_15,a_16⟩;omega) hI' (fun y q' c' H' hm=>hQ y q' c' H' (by rw[hmf];exact hm))
theorem G4{r r7 q:Ref}{c:Option Nat}{tm:List AV}{H:Heap}{out:List Lab}(htm:tget tm 7 = .ptr r7 0 0){l:List (Opn × AV)}{x:AV}(hx:Sl 17 (fZ l) x)(hall : ∀p∈l,okO p)(hl:l.length<100000)(b_1:UInt8)(b_2:UInt32)(b_3:UInt8)(b_4:Int)(hb0 : -4611686018427387904<b_4)(hb1:b_4<4611686018427387904)(v1:UInt8)(v2:UInt32)
 (ho:out.length≤1) (hI:MInv r r7 q c (.lp 0 27 [17] cD cC tm) H out) :
 ∃y H',limt env 0 (.fn 250) [.yld r,.iptr 1 [x] 0 0,.iptr 4 [.agg [a8 b_1,a32 b_2,a8 b_3,aI b_4]] 0 0,.iptr 2 [.agg [a8 v1,a32 v2]] 0 0] H=some (y,H') ∧∃q' c',MInv r r7 q' c' (.lp 0 27 [17] cD cC tm) H' (Cr out (opsOf l) (⟨⟨b_1,b_2,b_3⟩,b_4⟩:Idd) ⟨v1,v2⟩):=by
 refine iw (fn:=Tryz.f250) (c:=md) (by kernel_rfl) (by kernel_rfl) (by kernel_rfl) (by kernel_rfl) (by kernel_rfl) ?_
 refine vX _ _ _ _ _ _ _ fun g=>?_
 simp[af,ah,ad,ae,ab, *,pS,hx.r]
 exact EC htm hx hall hl b_1 b_2 b_3 b_4 hb0 hb1 v1 v2 l 0 _ out q c H rfl (by omega) rfl (by omega) hI (fun y q' c' H' hm=>⟨q',c',hm⟩)
theorem Oz:fm = .code (.rangeFunc (.tmp 16) #[17] cD cC) :: m9:=by kernel_rfl
def capM(out:List Lab):Option Nat:=if out.length=1 then some 1 else none
theorem ID{l:List (Opn × AV)}{x:AV}(hx:Sl 17 (fZ l) x)(b_1:UInt8)(b_2:UInt32)(b_3:UInt8)(b_4:Int)(v1:UInt8)(v2:UInt32):limf env 249 [x,.agg [a8 b_1,a32 b_2,a8 b_3,aI b_4],.agg [a8 v1,a32 v2]]=some (.fn (.func 250) [] [.iptr 1 [x] 0 0,.iptr 4 [.agg [a8 b_1,a32 b_2,a8 b_3,aI b_4]] 0 0,.iptr 2 [.agg [a8 v1,a32 v2]] 0 0]):=by
 refine aw (fn:=Tryz.f249) (c:=rT) rfl (by kernel_rfl) (by kernel_rfl) (by kernel_rfl) (by kernel_rfl) ?_;refine yO _ _ _ _ _ fun g=>?_
 simp[af,ah,ad,ae,ab, *,sA,hx.r]
theorem RJ{l:List (Opn × AV)}{x:AV}(hx:Sl 17 (fZ l) x)(hall : ∀p∈l,okO p)(hl:l.length<100000)(b_1:UInt8)(b_2:UInt32)(b_3:UInt8)(b_4:Int)(hb0 : -4611686018427387904<b_4)(hb1:b_4<4611686018427387904)(v1:UInt8)(v2:UInt32) :
 limf env 247 [x,.agg [a8 b_1,a32 b_2,a8 b_3,aI b_4],.agg [a8 v1,a32 v2]]=some (.isl 2 (labs (AO (opsOf l) (⟨⟨b_1,b_2,b_3⟩,b_4⟩:Idd) ⟨v1,v2⟩)) (capM (AO (opsOf l) (⟨⟨b_1,b_2,b_3⟩,b_4⟩:Idd) ⟨v1,v2⟩))):=by
 refine aw (fn:=Tryz.f247) (c:=qy) rfl (by kernel_rfl) (by kernel_rfl) (by kernel_rfl) (by kernel_rfl) ?_;refine B2 _ _ _ _ _ fun g=>?_
 have hr:=ID hx b_1 b_2 b_3 b_4 v1 v2
 have hcap : ∀ {r r7 q c info H out},MInv r r7 q c info H out→c=capM out:=by
  intro r r7 q c info H out h
  rcases h.cap with ⟨h1,_,_,h2⟩ | ⟨h1,h2⟩
  ·rw[h1,capM,if_neg (by omega)]
  ·rw[h1,capM,if_pos h2,h2]
 simp[af,ah,ad,ae,ab, *,vL,hx.r]
 rw[Oz]
 refine⟨fun g'=>Hw (gi:=250) (first:=[]) (captured:=[.iptr 1 [x] 0 0,.iptr 4 [.agg [a8 b_1,a32 b_2,a8 b_3,aI b_4]] 0 0,.iptr 2 [.agg [a8 v1,a32 v2]] 0 0]) rfl ?_⟩
 intro tm ht
 have e7:tget tm 7 = .ptr ⟨0,7,0,0⟩ 0 0:=(ht 7).trans rfl
 rw[show Tryz.f247.ntmps=27 from by kernel_rfl]
 obtain⟨y,H',hy,q',c',hm⟩:=G4 (r:=⟨0,27,0,0⟩) (r7:=⟨0,7,0,0⟩) (q:=⟨0,12,0,0⟩) (c:=some 1) (tm:=tm) (out:=[⟨b_1,b_2⟩])
  (H:=(⟨0,27,0,0⟩,some (kg 0 (.lp 0 27 [17] cD cC tm))) :: [(⟨0,7,0,0⟩,some ⟨1,[.osl ⟨0,12,0,0⟩ 0 1 (some 1)],false,false⟩),(⟨0,12,0,0⟩,some ⟨2,[.agg [a8 b_1,a32 b_2]],true,false⟩),(⟨0,5,0,0⟩,some ⟨2,[.agg [a8 v1,a32 v2]],false,false⟩),(⟨0,4,0,0⟩,some ⟨4,[.agg [a8 b_1,a32 b_2,a8 b_3,aI b_4]],false,false⟩)])
  e7 hx hall hl b_1 b_2 b_3 b_4 hb0 hb1 v1 v2 (by simp) ⟨by simp(maxDischargeDepth:=12) [au,ak,Fr.nil,az,af,ah,ad,ae,ar,ao,ab, *],by simp,by simp,by simp[labs],.inr ⟨rfl,rfl⟩,by decide,by decide,by decide⟩
 refine⟨y,H',0,_,by simpa using hy,by simp only[Heap.Gw,Heap.O6];rw[rC];exact(congrArg lpO hm.mark).trans (yA _ _),.inl ⟨rfl,?_⟩⟩
 have hs:=Ge (s:=ofL g' [(16,AV.fn (.func 250) [] [.iptr 1 [x] 0 0,.iptr 4 [.agg [a8 b_1,a32 b_2,a8 b_3,aI b_4]] 0 0,.iptr 2 [.agg [a8 v1,a32 v2]] 0 0]),(7,AV.ptr ⟨0,7,0,0⟩ 0 0)]) (l:=[(7,AV.ptr ⟨0,7,0,0⟩ 0 0)]) (by
  intro p hp
  simp only[List.mem_cons,List.not_mem_nil,or_false]at hp
  subst hp
  rfl)
 rw[←hs]
 refine(s7 _ _ _ fun g=>?_).h _
 have n1:(⟨0,7,0,0⟩:Ref)≠⟨0,27,0,0⟩:=hm.n1
 have n2:=hm.n2
 have hbx:=hm.box
 have hrw:=hm.row
 have hc:=hcap hm
 subst hc
 have hle:(Cr [⟨b_1,b_2⟩] (opsOf l) (⟨⟨b_1,b_2,b_3⟩,b_4⟩:Idd) ⟨v1,v2⟩)=AO (opsOf l) (⟨⟨b_1,b_2,b_3⟩,b_4⟩:Idd) ⟨v1,v2⟩:=rfl
 rw[hle]at hbx hrw
 simp[af,ah,ad,ae,ab, *,mQ,Heap.an]
end Go.Proofs.YtmkmimgokagimaaGreat
