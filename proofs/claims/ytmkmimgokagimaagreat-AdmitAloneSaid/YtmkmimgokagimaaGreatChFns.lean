/-
  Chains: labels, spans, what an element's raises are. No statement of a seat is proved here.
-/
import Derived.Test.YtmkmimgokagimaaGreatMOpFns
import Derived.Test.YtmkmimgokagimaaGreatLeVc3
import Derived.Test.YtmkmimgokagimaaGreatMChMath
set_option linter.unusedVariables false
set_option linter.unusedSimpArgs false
set_option linter.unusedSectionVars false
set_option linter.unnecessarySimpa false
set_option maxRecDepth 100000
namespace Go.Proofs.YtmkmimgokagimaaGreat
open Go.Ab
attribute [local simp] bJ bw bt bG bF cL kN bX bx bD cR cQ cr bY bh ct List.take_of_length_le
@[simp] theorem Hu(a:UInt8)(b:UInt32)(c:UInt8)(d:UInt32):bj env 47 [.agg [a8 a,aF b],.agg [a8 c,aF d]]=some (aB (nd ⟨a,b⟩ ⟨c,d⟩)):=by
 refine aG (fn:=Tryz.f47) (c:=wG) rfl (by kernel_rfl) (by kernel_rfl) (by kernel_rfl) (by kernel_rfl) ?_;refine AB _ _ _ _ fun g=>?_
 simp[ah,ai,ae,af,ab, *,wP]
 repeat' ((first | refine mZ (fun h=>?_) (fun h=>?_) | refine lz (fun h=>?_) (fun h=>?_) | refine lA (fun h=>?_) (fun h=>?_) | refine lx (fun h=>?_) (fun h=>?_) | refine ly (fun h=>?_) (fun h=>?_))<;>(try simp only[decide_eq_true_eq,decide_eq_false_iff_not,Bool.not_eq_true',Bool.not_eq_false',Bool.and_eq_true,Bool.or_eq_true]at h)<;>(try simp[ah,ai,ae,af,ab, *,nd]))
theorem aaq(ba:UInt8)(aO:UInt32)(aN:UInt8)(aT:Int)(aV:Int)(kg:UInt8)(kf:UInt32)(kM:UInt8)(iE:Int)(h0 : -4611686018427387904<iE)(h1:iE<4611686018427387904):bj env 251 [.agg [a8 ba,aF aO,a8 aN,aI aT,aI aV],.agg [a8 kg,aF kf,a8 kM,aI iE]]=some (if hasB (⟨⟨⟨ba,aO,aN⟩,aT⟩,aV⟩:CZ) (⟨⟨kg,kf,kM⟩,iE⟩:eJ) then .tup [aI (iE - aT),aB true] else .tup [aI 0,aB false]):=by
 refine aG (fn:=Tryz.f251) (c:=Ga) rfl (by kernel_rfl) (by kernel_rfl) (by kernel_rfl) (by kernel_rfl) ?_;refine LA _ _ _ _ fun g=>?_
 cases hb:jz (⟨⟨⟨ba,aO,aN⟩,aT⟩,aV⟩:CZ) with
 | false =>
  have e:hasB (⟨⟨⟨ba,aO,aN⟩,aT⟩,aV⟩:CZ) (⟨⟨kg,kf,kM⟩,iE⟩:eJ)=false:=by simp[hasB,hb]
  simp[ah,ai,ae,af,ab, *,ql]
 | true =>
  have hn:=kV hb
  simp only at hn
  have w1:=IntWalk.i64_in (iE - aT) (by omega)
  have w2:=IntWalk.i64_in (aT+(iE - aT)) (by omega)
  have e0:aT+(iE - aT)=iE:=by omega
  have w3:=IntWalk.i64_in iE (by omega)
  rcases Int.lt_or_le (iE - aT) 0 with c1 | c1
  ·have e:hasB (⟨⟨⟨ba,aO,aN⟩,aT⟩,aV⟩:CZ) (⟨⟨kg,kf,kM⟩,iE⟩:eJ)=false:=by
    have : ¬aT≤iE:=by omega
    simp[hasB,this]
   simp[ah,ai,ae,af,ab, *,ql]
  ·have c1' : ¬iE - aT<0:=by omega
   rcases Int.lt_or_le (iE - aT) aV with c2 | c2
   rotate_left
   ·have e:hasB (⟨⟨⟨ba,aO,aN⟩,aT⟩,aV⟩:CZ) (⟨⟨kg,kf,kM⟩,iE⟩:eJ)=false:=by
     have : ¬iE<aT+aV:=by omega
     simp[hasB,this]
    simp[ah,ai,ae,af,ab, *,ql]
   ·have c2' : ¬aV≤iE - aT:=by omega
    have c3:aT≤iE:=by omega
    have c4:iE<aT+aV:=by omega
    have hS:decide ((⟨ba,aO,aN⟩:nY)=⟨kg,kf,kM⟩)=(decide (kg=ba)&&decide (kf=aO)&&decide (kM=aN)):=by
     simp[Bool.and_assoc,eq_comm]
    have e:hasB (⟨⟨⟨ba,aO,aN⟩,aT⟩,aV⟩:CZ) (⟨⟨kg,kf,kM⟩,iE⟩:eJ)=(decide (kg=ba)&&decide (kf=aO)&&decide (kM=aN)):=by
     rw[←hS];simp only[hasB,hb,c3,c4,decide_true,Bool.and_true,Bool.true_and]
    rw[e]
    clear e hS
    cases hA:(decide (kg=ba)&&decide (kf=aO)&&decide (kM=aN)) with
    | false=>simp[ah,ai,ae,af,ab, *,ql,ke,eE]
    | true=>simp[ah,ai,ae,af,ab, *,ql,ke,eE]
def rV(t:jS):List jS→Nat→Int
 | [],_ => -1
 | a :: l,k=>if t=a then k else rV t l (k+1)
theorem Mn(t:jS)(l:List jS) : ∀k:Nat,(0≤rV t l k↔t∈l):=by
 induction l with
 | nil=>intro k;simp[rV]
 | cons a l ih =>
  intro k
  unfold rV
  by_cases h:t=a
  ·simp[h]
  ·rw[if_neg h,ih];simp[h]
theorem KB{x0:AV}{Q:AV→ad→Prop}{l:List jS}(hx:Sl 2 (Ad l) x0)(hl:l.length<4611686018427387904){a:UInt8}{b:UInt32}{r3:Ref}{H:ad}(hB:H.get r3=some ⟨2,[.agg [a8 a,aF b]],false,false⟩) :
 ∀(s:List jS)(k:Nat)(i:Int),l.drop k=s→k≤l.length→i=k→(∀y,y=aI (rV ⟨a,b⟩ s k)→Q y H) →
 b7 env Tryz.f248 0 bM [(8,aI i),(0,x0),(3,.ptr r3 0 0),(7,aI l.length)] H Q:=by
 intro s
 induction s with
 | nil =>
  rintro k i hs hk rfl hQ
  obtain rfl:=drop_nil hs hk
  refine dq _ _ _ _ _ _ fun g=>?_
  simp[ah,ai,ae,af,ab, *,bN]
  all_goals exact hQ _ rfl
 | cons t s ih =>
  rintro k i hs hk rfl hQ
  obtain⟨t1,t2⟩:=t
  obtain⟨hlt,hg,hs',hg'⟩:=drop_cons hs
  refine dq _ _ _ _ _ _ fun g=>?_
  have e3:=IntWalk.i64_in ((k:Int)+1) (by omega)
  have hT:((⟨a,b⟩:jS)=⟨t1,t2⟩)=((decide (a=t1)&&decide (b=t2))=true):=by simp
  cases hA:(decide (a=t1)&&decide (b=t2)) with
  | true =>
   rw[hA]at hT
   have e:rV ⟨a,b⟩ (⟨t1,t2⟩ :: s) k=k:=by unfold rV;rw[if_pos (by rw[hT])]
   clear hT
   simp[ah,ai,ae,af,ab, *,bN,hx.idx,Ad,ke,eE]
   all_goals exact hQ _ (by simp[e])
  | false =>
   rw[hA]at hT
   have e:rV ⟨a,b⟩ (⟨t1,t2⟩ :: s) k=rV ⟨a,b⟩ s (k+1):=by
    rw[rV,if_neg (by rw[hT];simp)]
   clear hT
   simp[ah,ai,ae,af,ab, *,bN,hx.idx,Ad,ke,eE]
   exact ih (k+1) _ hs' (by omega) (by simp) (fun y ey=>hQ y (by rw[ey,e]))
section
variable{x:AV}{l:List jS}(hx:Sl 2 (Ad l) x)(hl:l.length<4611686018427387904)
include hx hl
theorem Qv(a:UInt8)(b:UInt32):bj env 248 [x,.agg [a8 a,aF b]]=some (aI (rV ⟨a,b⟩ l 0)):=by
 refine aG (fn:=Tryz.f248) (c:=cB) rfl (by kernel_rfl) (by kernel_rfl) (by kernel_rfl) (by kernel_rfl) ?_;refine fN _ _ _ _ fun g=>?_
 have h:=hx.len
 simp[ah,ai,ae,af,ab, *,dI]
 exact KB hx hl (a:=a) (b:=b) (by simp) l 0 _ rfl (by omega) rfl (fun y e=>by simp[e])
theorem xN(a:UInt8)(b:UInt32):bj env 246 [x,.agg [a8 a,aF b]]=some (aB (decide (⟨a,b⟩∈l))):=by
 refine aG (fn:=Tryz.f246) (c:=df) rfl (by kernel_rfl) (by kernel_rfl) (by kernel_rfl) (by kernel_rfl) ?_;refine fv _ _ _ _ fun g=>?_
 have h:=Qv hx hl a b
 have e:=Mn ⟨a,b⟩ l 0
 simp[ah,ai,ae,af,ab, *,dg,hx.r]
end
structure Hg (r r7 q:Ref) (c:Option Nat) (info:AV) (H:ad) (out:List jS):Prop where
 fr:Fr H
 mark:H.get r=some (iS 0 info)
 box:H.get r7=some ⟨1,[.cP q 0 out.length c],false,false⟩
 row:H.get q=some ⟨2,Ad out,true,false⟩
 cap:(c=none∧q.d=2∧q.t=25∧2≤out.length)∨(c=some out.length∧out.length=1)
 n1:r7≠r
 n2:q≠r
 n3:q≠r7
theorem Mc{r r7 q:Ref}{c:Option Nat}{tm:List AV}{H:ad}{out:List jS}{ps:List Tmp}(hps:ps=[17])(htm:dL tm 7 = .ptr r7 0 0)(hI:Hg r r7 q c (.lp 0 27 ps dN dM tm) H out)(hlen:out.length<1000000)(a:UInt8)(b:UInt32) :
 ∃y H',bO env 1 (.yld r) [.agg [a8 a,aF b]] H=some (y,H')∧(y=aB true ∧∃q' c',Hg r r7 q' c' (.lp 0 27 ps dN dM tm) H' (An out ⟨a,b⟩)):=by
 subst hps
 refine OY (fn:=Tryz.f247) (dep:=1) hI.mark (by kernel_rfl) rfl rfl (by kernel_rfl) (by kernel_rfl) ?_
 rw[←Kf (s:=dL (uK tm [17] [.agg [a8 a,aF b]])) (l:=[(7,.ptr r7 0 0),(17,.agg [a8 a,aF b])]) (by
  intro p hp
  simp only[List.mem_cons,List.not_mem_nil,or_false]at hp
  rcases hp with rfl | rfl
  ·show dL (AN tm 17 _) 7=_
   rw[rz]
   simpa using htm
  ·show dL (AN tm 17 _) 17=_
   rw[rz]
   simp)]
 refine(ze r _ _ _ _ fun g=>?_).h _
 obtain⟨fr,mark,box,row,cap,n1,n2,n3⟩:=hI
 have n1':=n1.symm
 have n2':=n2.symm
 have n3':=n3.symm
 have l1:(H.get r).isSome=true:=by rw[mark];rfl
 have l2:(H.get r7).isSome=true:=by rw[box];rfl
 have l3:(H.get q).isSome=true:=by rw[row];rfl
 have f1:out.length+1≤17592186044416:=by omega
 have f2:(out.length+1) * 8≤140737488355328:=by omega
 have ha:(⟨a,b⟩:jS) ∉ out→An out ⟨a,b⟩=out++[⟨a,b⟩]:=fun h=>by unfold An;rw[if_neg h]
 rcases cap with ⟨rfl,q1,q2,q3⟩ | ⟨rfl,q3'⟩
 ·obtain⟨qd,qt,qg,qk⟩:=q
  simp only at q1 q2
  subst q1 q2
  have hc:=xN (x := .ck 2 (Ad out) none) (Sl.mk _ _) (by omega) a b
  by_cases hm:(⟨a,b⟩:jS)∈out
  ·have e:An out ⟨a,b⟩=out:=by unfold An;rw[if_pos hm]
   simp[ah,ai,ae,af,ab, *,iA,tD,ad.ao]
   refine⟨_,rfl,_,none,⟨by simp(maxDischargeDepth:=12) [ad.ao,aD,aq,Fr.nil,aJ,ah,ai,ae,af,aC,ar,ab, *],by simp(maxDischargeDepth:=12) [ad.ao,aD,aq,Fr.nil,aJ,ah,ai,ae,af,aC,ar,ab, *],by simp(maxDischargeDepth:=12) [ad.ao,aD,aq,Fr.nil,aJ,ah,ai,ae,af,aC,ar,ab, *],by simp(maxDischargeDepth:=12) [ad.ao,aD,aq,Fr.nil,aJ,ah,ai,ae,af,aC,ar,ab, *],.inl ⟨rfl,rfl,rfl,by first | exact q3 | (rw[e];exact q3)⟩,n1,n2,n3⟩⟩
  ·replace ha:=ha hm
   simp[ah,ai,ae,af,ab, *,iA,tD,ad.ao]
   refine⟨_,rfl,⟨2,25,H.gen 2 25,0⟩,none,⟨by simp(maxDischargeDepth:=12) [ad.ao,aD,aq,Fr.nil,aJ,ah,ai,ae,af,aC,ar,ab, *],by simp(maxDischargeDepth:=12) [ad.ao,aD,aq,Fr.nil,aJ,ah,ai,ae,af,aC,ar,ab, *],by simp(maxDischargeDepth:=12) [ad.ao,aD,aq,Fr.nil,aJ,ah,ai,ae,af,aC,ar,ab, *],?_,.inl ⟨rfl,rfl,rfl,by simp[ha];omega⟩,by simp(maxDischargeDepth:=12) [ad.ao,aD,aq,Fr.nil,aJ,ah,ai,ae,af,aC,ar,ab, *],by simp(maxDischargeDepth:=12) [ad.ao,aD,aq,Fr.nil,aJ,ah,ai,ae,af,aC,ar,ab, *],by simp(maxDischargeDepth:=12) [ad.ao,aD,aq,Fr.nil,aJ,ah,ai,ae,af,aC,ar,ab, *]⟩⟩
   simp[ad.ao,Ad,ha]
 ·have q3:out.length≤1∧1≤out.length:=by omega
  clear q3'
  have hc:=xN (x := .ck 2 (Ad out) (some out.length)) (.inr ⟨_,rfl,by simp⟩) (by omega) a b
  by_cases hm:(⟨a,b⟩:jS)∈out
  ·have e:An out ⟨a,b⟩=out:=by unfold An;rw[if_pos hm]
   simp[ah,ai,ae,af,ab, *,iA,tD,ad.ao]
   refine⟨_,rfl,_,some out.length,⟨by simp(maxDischargeDepth:=12) [ad.ao,aD,aq,Fr.nil,aJ,ah,ai,ae,af,aC,ar,ab, *],by simp(maxDischargeDepth:=12) [ad.ao,aD,aq,Fr.nil,aJ,ah,ai,ae,af,aC,ar,ab, *],by simp(maxDischargeDepth:=12) [ad.ao,aD,aq,Fr.nil,aJ,ah,ai,ae,af,aC,ar,ab, *],by simp(maxDischargeDepth:=12) [ad.ao,aD,aq,Fr.nil,aJ,ah,ai,ae,af,aC,ar,ab, *],.inr ⟨by first | rfl | rw[e],by first | omega | (rw[e];omega)⟩,n1,n2,n3⟩⟩
  ·replace ha:=ha hm
   simp[ah,ai,ae,af,ab, *,iA,tD,ad.ao]
   refine⟨_,rfl,⟨2,25,H.gen 2 25,0⟩,none,⟨by simp(maxDischargeDepth:=12) [ad.ao,aD,aq,Fr.nil,aJ,ah,ai,ae,af,aC,ar,ab, *],by simp(maxDischargeDepth:=12) [ad.ao,aD,aq,Fr.nil,aJ,ah,ai,ae,af,aC,ar,ab, *],by simp(maxDischargeDepth:=12) [ad.ao,aD,aq,Fr.nil,aJ,ah,ai,ae,af,aC,ar,ab, *],?_,.inl ⟨rfl,rfl,rfl,by simp[ha];omega⟩,by simp(maxDischargeDepth:=12) [ad.ao,aD,aq,Fr.nil,aJ,ah,ai,ae,af,aC,ar,ab, *],by simp(maxDischargeDepth:=12) [ad.ao,aD,aq,Fr.nil,aJ,ah,ai,ae,af,aC,ar,ab, *],by simp(maxDischargeDepth:=12) [ad.ao,aD,aq,Fr.nil,aJ,ah,ai,ae,af,aC,ar,ab, *]⟩⟩
   simp[ad.ao,Ad,ha]
theorem Hg.cons{r r7 q:Ref}{c:Option Nat}{info:AV}{H:ad}{out:List jS}(h:Hg r r7 q c info H out)(d t:Nat)(b:Option bP):Hg r r7 q c info ((⟨d,t,H.gen d t,0⟩,b) :: H) out:=by
 obtain⟨fr,mark,box,row,cap,n1,n2,n3⟩:=h
 have l1:(H.get r).isSome=true:=by rw[mark];rfl
 have l2:(H.get r7).isSome=true:=by rw[box];rfl
 have l3:(H.get q).isSome=true:=by rw[row];rfl
 exact⟨by simp(maxDischargeDepth:=12) [ad.ao,aD,aq,Fr.nil,aJ,ah,ai,ae,af,aC,ar,ab, *],by simp(maxDischargeDepth:=12) [ad.ao,aD,aq,Fr.nil,aJ,ah,ai,ae,af,aC,ar,ab, *],by simp(maxDischargeDepth:=12) [ad.ao,aD,aq,Fr.nil,aJ,ah,ai,ae,af,aC,ar,ab, *],by simp(maxDischargeDepth:=12) [ad.ao,aD,aq,Fr.nil,aJ,ah,ai,ae,af,aC,ar,ab, *],cap,n1,n2,n3⟩
theorem JZ{r r7:Ref}{tm:List AV}(htm:dL tm 7 = .ptr r7 0 0){l:List (bz × AV)}{x9:AV}(hx:Sl 17 (ff l) x9)(hall : ∀p∈l,L8 p)(hl:l.length<100000)(kg:UInt8)(kf:UInt32)(kM:UInt8)(iE:Int)(hb0 : -4611686018427387904<iE)(hb1:iE<4611686018427387904)(v1:UInt8)(v2:UInt32){Q:AV→ad→Prop} :
 ∀(s:List (bz × AV)) (k:Nat) (i:Int) (out:List jS) (q:Ref) (c:Option Nat) (H:ad),l.drop k=s→k≤l.length→i=k→out.length≤k+1 →
 Hg r r7 q c (.lp 0 27 [17] dN dM tm) H out →
 (∀y q' c' H',Hg r r7 q' c' (.lp 0 27 [17] dN dM tm) H' (vn out (opsOf s) (⟨⟨kg,kf,kM⟩,iE⟩:eJ) ⟨v1,v2⟩)→Q y H') →
 b7 env Tryz.f250 (0+1) jZ [(11,aI i),(0,.yld r),(3,.iptr 2 [.agg [a8 v1,aF v2]] 0 0),(2,.iptr 4 [.agg [a8 kg,aF kf,a8 kM,aI iE]] 0 0),(9,x9),(10,aI l.length)] H Q:=by
 intro s
 induction s with
 | nil =>
  rintro k i out q c H hs hk rfl ho hI hQ
  obtain rfl:=drop_nil hs hk
  refine qN _ _ _ _ _ _ _ _ _ fun g=>?_
  simp[ah,ai,ae,af,ab, *,fF]
  exact hQ _ _ _ _ hI
 | cons p s ih =>
  rintro k i out q c H hs hk rfl ho hI hQ
  obtain⟨hlt,hg,hs',hg'⟩:=drop_cons hs
  have hp:=hall p (by rw[←hg];exact List.getElem_mem _)
  obtain⟨⟨ba,⟨aO,aN,aT⟩,aV,⟨⟨⟨aX,aW,aY⟩,aZ⟩,an⟩,⟨⟨ay,ax,aw⟩,au⟩,⟨aA,az⟩,al⟩,x⟩:=p
  obtain⟨hpx,hpl⟩:=hp
  simp only at hpx hpl
  refine qN _ _ _ _ _ _ _ _ _ fun g=>?_
  have e3:=IntWalk.i64_in ((k:Int)+1) (by omega)
  have hh:=aaq aX aW aY aZ an kg kf kM iE hb0 hb1
  have hI2:=hI.cons 1 6 (some ⟨17,[.agg [a8 ba,a8 aO,aF aN,a8 aT,aI aV,a8 aX,aF aW,a8 aY,aI aZ,aI an,a8 ay,aF ax,a8 aw,aI au,a8 aA,aF az,x]],false,false⟩)
  have hmf:vn out (opsOf (((⟨ba,⟨aO,aN,aT⟩,aV,⟨⟨⟨aX,aW,aY⟩,aZ⟩,an⟩,⟨⟨ay,ax,aw⟩,au⟩,⟨aA,az⟩,al⟩:bz),x) :: s)) (⟨⟨kg,kf,kM⟩,iE⟩:eJ) ⟨v1,v2⟩=vn (if mm (⟨ba,⟨aO,aN,aT⟩,aV,⟨⟨⟨aX,aW,aY⟩,aZ⟩,an⟩,⟨⟨ay,ax,aw⟩,au⟩,⟨aA,az⟩,al⟩:bz) (⟨⟨kg,kf,kM⟩,iE⟩:eJ) ⟨v1,v2⟩ then An out ⟨aA,az⟩ else out) (opsOf s) (⟨⟨kg,kf,kM⟩,iE⟩:eJ) ⟨v1,v2⟩:=rfl
  have hfr:=hI.fr
  by_cases hk3:ba=3
  rotate_left
  ·have hr:mm (⟨ba,⟨aO,aN,aT⟩,aV,⟨⟨⟨aX,aW,aY⟩,aZ⟩,an⟩,⟨⟨ay,ax,aw⟩,au⟩,⟨aA,az⟩,al⟩:bz) (⟨⟨kg,kf,kM⟩,iE⟩:eJ) ⟨v1,v2⟩=false:=by simp[mm,hk3]
   rw[hr,if_neg (by decide)]at hmf
   cases hb:hasB ⟨⟨⟨aX,aW,aY⟩,aZ⟩,an⟩ (⟨⟨kg,kf,kM⟩,iE⟩:eJ)<;>simp[ah,ai,ae,af,ab, *,fF,hx.idx,ff,IW,hpx.r]
   all_goals exact ih (k+1) _ out q c _ hs' (by omega) (by simp) (by omega) hI2 (fun y q' c' H' hm=>hQ y q' c' H' (by rw[hmf];exact hm))
  ·subst hk3
   cases hb:hasB ⟨⟨⟨aX,aW,aY⟩,aZ⟩,an⟩ (⟨⟨kg,kf,kM⟩,iE⟩:eJ) with
   | false =>
    have hr:mm (⟨3,⟨aO,aN,aT⟩,aV,⟨⟨⟨aX,aW,aY⟩,aZ⟩,an⟩,⟨⟨ay,ax,aw⟩,au⟩,⟨aA,az⟩,al⟩:bz) (⟨⟨kg,kf,kM⟩,iE⟩:eJ) ⟨v1,v2⟩=false:=by simp[mm,hb]
    rw[hr,if_neg (by decide)]at hmf
    simp[ah,ai,ae,af,ab, *,fF,hx.idx,ff,IW,hpx.r]
    exact ih (k+1) _ out q c _ hs' (by omega) (by simp) (by omega) hI2 (fun y q' c' H' hm=>hQ y q' c' H' (by rw[hmf];exact hm))
   | true =>
    cases hq:nd ⟨aO,aN⟩ ⟨v1,v2⟩ with
    | false =>
     have hr:mm (⟨3,⟨aO,aN,aT⟩,aV,⟨⟨⟨aX,aW,aY⟩,aZ⟩,an⟩,⟨⟨ay,ax,aw⟩,au⟩,⟨aA,az⟩,al⟩:bz) (⟨⟨kg,kf,kM⟩,iE⟩:eJ) ⟨v1,v2⟩=false:=by simp[mm,hb,Lt,hq]
     rw[hr,if_neg (by decide)]at hmf
     simp[ah,ai,ae,af,ab, *,fF,hx.idx,ff,IW,hpx.r]
     exact ih (k+1) _ out q c _ hs' (by omega) (by simp) (by omega) hI2 (fun y q' c' H' hm=>hQ y q' c' H' (by rw[hmf];exact hm))
    | true =>
     have hr:mm (⟨3,⟨aO,aN,aT⟩,aV,⟨⟨⟨aX,aW,aY⟩,aZ⟩,an⟩,⟨⟨ay,ax,aw⟩,au⟩,⟨aA,az⟩,al⟩:bz) (⟨⟨kg,kf,kM⟩,iE⟩:eJ) ⟨v1,v2⟩=true:=by simp[mm,hb,Lt,hq]
     rw[hr,if_pos rfl]at hmf
     obtain⟨y,H',hy,rfl,q',c',hI'⟩:=Mc rfl htm hI2 (by omega) aA az
     simp[ah,ai,ae,af,ab, *,fF,hx.idx,ff,IW,hpx.r,Ld]
     exact ih (k+1) _ _ q' c' _ hs' (by omega) (by simp) (by have:=Ln out ⟨aA,az⟩;omega) hI' (fun y q' c' H' hm=>hQ y q' c' H' (by rw[hmf];exact hm))
theorem LY{r r7 q:Ref}{c:Option Nat}{tm:List AV}{H:ad}{out:List jS}(htm:dL tm 7 = .ptr r7 0 0){l:List (bz × AV)}{x:AV}(hx:Sl 17 (ff l) x)(hall : ∀p∈l,L8 p)(hl:l.length<100000)(kg:UInt8)(kf:UInt32)(kM:UInt8)(iE:Int)(hb0 : -4611686018427387904<iE)(hb1:iE<4611686018427387904)(v1:UInt8)(v2:UInt32)
 (ho:out.length≤1) (hI:Hg r r7 q c (.lp 0 27 [17] dN dM tm) H out) :
 ∃y H',bO env 0 (.fn 250) [.yld r,.iptr 1 [x] 0 0,.iptr 4 [.agg [a8 kg,aF kf,a8 kM,aI iE]] 0 0,.iptr 2 [.agg [a8 v1,aF v2]] 0 0] H=some (y,H') ∧∃q' c',Hg r r7 q' c' (.lp 0 27 [17] dN dM tm) H' (vn out (opsOf l) (⟨⟨kg,kf,kM⟩,iE⟩:eJ) ⟨v1,v2⟩):=by
 refine iT (fn:=Tryz.f250) (c:=po) (by kernel_rfl) (by kernel_rfl) (by kernel_rfl) (by kernel_rfl) (by kernel_rfl) ?_
 refine AE _ _ _ _ _ _ _ fun g=>?_
 simp[ah,ai,ae,af,ab, *,uy,hx.r]
 exact JZ htm hx hall hl kg kf kM iE hb0 hb1 v1 v2 l 0 _ out q c H rfl (by omega) rfl (by omega) hI (fun y q' c' H' hm=>⟨q',c',hm⟩)
theorem S1:iq = .code (.rangeFunc (.tmp 16) #[17] dN dM) :: qP:=by kernel_rfl
def Pn(out:List jS):Option Nat:=if out.length=1 then some 1 else none
theorem N7{l:List (bz × AV)}{x:AV}(hx:Sl 17 (ff l) x)(kg:UInt8)(kf:UInt32)(kM:UInt8)(iE:Int)(v1:UInt8)(v2:UInt32):bj env 249 [x,.agg [a8 kg,aF kf,a8 kM,aI iE],.agg [a8 v1,aF v2]]=some (.fn (.func 250) [] [.iptr 1 [x] 0 0,.iptr 4 [.agg [a8 kg,aF kf,a8 kM,aI iE]] 0 0,.iptr 2 [.agg [a8 v1,aF v2]] 0 0]):=by
 refine aG (fn:=Tryz.f249) (c:=w6) rfl (by kernel_rfl) (by kernel_rfl) (by kernel_rfl) (by kernel_rfl) ?_;refine DA _ _ _ _ _ fun g=>?_
 simp[ah,ai,ae,af,ab, *,xj,hx.r]
theorem VI{l:List (bz × AV)}{x:AV}(hx:Sl 17 (ff l) x)(hall : ∀p∈l,L8 p)(hl:l.length<100000)(kg:UInt8)(kf:UInt32)(kM:UInt8)(iE:Int)(hb0 : -4611686018427387904<iE)(hb1:iE<4611686018427387904)(v1:UInt8)(v2:UInt32) :
 bj env 247 [x,.agg [a8 kg,aF kf,a8 kM,aI iE],.agg [a8 v1,aF v2]]=some (.ck 2 (Ad (xV (opsOf l) (⟨⟨kg,kf,kM⟩,iE⟩:eJ) ⟨v1,v2⟩)) (Pn (xV (opsOf l) (⟨⟨kg,kf,kM⟩,iE⟩:eJ) ⟨v1,v2⟩))):=by
 refine aG (fn:=Tryz.f247) (c:=uS) rfl (by kernel_rfl) (by kernel_rfl) (by kernel_rfl) (by kernel_rfl) ?_;refine Gz _ _ _ _ _ fun g=>?_
 have hr:=N7 hx kg kf kM iE v1 v2
 have hcap : ∀ {r r7 q c info H out},Hg r r7 q c info H out→c=Pn out:=by
  intro r r7 q c info H out h
  rcases h.cap with ⟨h1,_,_,h2⟩ | ⟨h1,h2⟩
  ·rw[h1,Pn,if_neg (by omega)]
  ·rw[h1,Pn,if_pos h2,h2]
 simp[ah,ai,ae,af,ab, *,zS,hx.r]
 rw[S1]
 refine⟨fun g'=>Mt (gi:=250) (first:=[]) (captured:=[.iptr 1 [x] 0 0,.iptr 4 [.agg [a8 kg,aF kf,a8 kM,aI iE]] 0 0,.iptr 2 [.agg [a8 v1,aF v2]] 0 0]) rfl ?_⟩
 intro tm ht
 have e7:dL tm 7 = .ptr ⟨0,7,0,0⟩ 0 0:=(ht 7).trans rfl
 rw[show Tryz.f247.ntmps=27 from by kernel_rfl]
 obtain⟨y,H',hy,q',c',hm⟩:=LY (r:=⟨0,27,0,0⟩) (r7:=⟨0,7,0,0⟩) (q:=⟨0,12,0,0⟩) (c:=some 1) (tm:=tm) (out:=[⟨kg,kf⟩])
  (H:=(⟨0,27,0,0⟩,some (iS 0 (.lp 0 27 [17] dN dM tm))) :: [(⟨0,7,0,0⟩,some ⟨1,[.cP ⟨0,12,0,0⟩ 0 1 (some 1)],false,false⟩),(⟨0,12,0,0⟩,some ⟨2,[.agg [a8 kg,aF kf]],true,false⟩),(⟨0,5,0,0⟩,some ⟨2,[.agg [a8 v1,aF v2]],false,false⟩),(⟨0,4,0,0⟩,some ⟨4,[.agg [a8 kg,aF kf,a8 kM,aI iE]],false,false⟩)])
  e7 hx hall hl kg kf kM iE hb0 hb1 v1 v2 (by simp) ⟨by simp(maxDischargeDepth:=12) [aD,aq,Fr.nil,aJ,ah,ai,ae,af,aC,ar,ab, *],by simp,by simp,by simp[Ad],.inr ⟨rfl,rfl⟩,by decide,by decide,by decide⟩
 refine⟨y,H',0,_,by simpa using hy,by simp only[ad.KM,ad.TD];rw[tD];exact(congrArg lpO hm.mark).trans (Bq _ _),.inl ⟨rfl,?_⟩⟩
 have hs:=Kf (s:=PA g' [(16,AV.fn (.func 250) [] [.iptr 1 [x] 0 0,.iptr 4 [.agg [a8 kg,aF kf,a8 kM,aI iE]] 0 0,.iptr 2 [.agg [a8 v1,aF v2]] 0 0]),(7,AV.ptr ⟨0,7,0,0⟩ 0 0)]) (l:=[(7,AV.ptr ⟨0,7,0,0⟩ 0 0)]) (by
  intro p hp
  simp only[List.mem_cons,List.not_mem_nil,or_false]at hp
  subst hp
  rfl)
 rw[←hs]
 refine(xH _ _ _ fun g=>?_).h _
 have n1:(⟨0,7,0,0⟩:Ref)≠⟨0,27,0,0⟩:=hm.n1
 have n2:=hm.n2
 have hbx:=hm.box
 have hrw:=hm.row
 have hc:=hcap hm
 subst hc
 have hle:(vn [⟨kg,kf⟩] (opsOf l) (⟨⟨kg,kf,kM⟩,iE⟩:eJ) ⟨v1,v2⟩)=xV (opsOf l) (⟨⟨kg,kf,kM⟩,iE⟩:eJ) ⟨v1,v2⟩:=rfl
 rw[hle]at hbx hrw
 simp[ah,ai,ae,af,ab, *,qI,ad.ao]
end Go.Proofs.YtmkmimgokagimaaGreat
