/-
  Chains: labels, spans, what an element's raises are. No statement of a seat is proved here.
-/
import Derived.Test.YtdbiffjdomokfaaGreatMOpBytes
import Derived.Test.YtdbiffjdomokfaaGreatAuVc3
import Derived.Test.YtdbiffjdomokfaaGreatChMath
set_option linter.unusedVariables false
set_option linter.unusedSimpArgs false
set_option linter.unusedSectionVars false
set_option linter.unnecessarySimpa false
set_option maxRecDepth 100000
namespace Go.Proofs.YtdbiffjdomokfaaGreat
open Go.Ab
attribute [local simp] bD bp bl bC bB cV lj bP bt bA dc db cg bR aV cm List.take_of_length_le
@[simp] theorem Eu(a:UInt8)(b:UInt32)(c:UInt8)(d:UInt32):bj env 20 [.agg [a8 a,aG b],.agg [a8 c,aG d]]=some (aB (nP ⟨a,b⟩ ⟨c,d⟩)):=by
 refine aK (fn:=Tryz.f20) (c:=tO) rfl (by kernel_rfl) (by kernel_rfl) (by kernel_rfl) (by kernel_rfl) ?_;refine xY _ _ _ _ fun g=>?_
 simp[ah,ai,ae,af,ad, *,tX]
 repeat' ((first | refine kO (fun h=>?_) (fun h=>?_) | refine kC (fun h=>?_) (fun h=>?_) | refine kD (fun h=>?_) (fun h=>?_) | refine kA (fun h=>?_) (fun h=>?_) | refine kB (fun h=>?_) (fun h=>?_))<;>(try simp only[decide_eq_true_eq,decide_eq_false_iff_not,Bool.not_eq_true',Bool.not_eq_false',Bool.and_eq_true,Bool.or_eq_true]at h)<;>(try simp[ah,ai,ae,af,ad, *,nP]))
theorem W5(bh:UInt8)(aQ:UInt32)(aP:UInt8)(aW:Int)(aY:Int)(lx:UInt8)(lu:UInt32)(lW:UInt8)(jx:Int)(h0 : -4611686018427387904<jx)(h1:jx<4611686018427387904):bj env 176 [.agg [a8 bh,aG aQ,a8 aP,aI aW,aI aY],.agg [a8 lx,aG lu,a8 lW,aI jx]]=some (if hasB (⟨⟨⟨bh,aQ,aP⟩,aW⟩,aY⟩:Ao) (⟨⟨lx,lu,lW⟩,jx⟩:eE) then .tup [aI (jx - aW),aB true] else .tup [aI 0,aB false]):=by
 refine aK (fn:=Tryz.f176) (c:=Db) rfl (by kernel_rfl) (by kernel_rfl) (by kernel_rfl) (by kernel_rfl) ?_;refine IL _ _ _ _ fun g=>?_
 cases hb:jg (⟨⟨⟨bh,aQ,aP⟩,aW⟩,aY⟩:Ao) with
 | false =>
  have e:hasB (⟨⟨⟨bh,aQ,aP⟩,aW⟩,aY⟩:Ao) (⟨⟨lx,lu,lW⟩,jx⟩:eE)=false:=by simp[hasB,hb]
  simp[ah,ai,ae,af,ad, *,oY]
 | true =>
  have hn:=ko hb
  simp only at hn
  have w1:=IntWalk.i64_in (jx - aW) (by omega)
  have w2:=IntWalk.i64_in (aW+(jx - aW)) (by omega)
  have e0:aW+(jx - aW)=jx:=by omega
  have w3:=IntWalk.i64_in jx (by omega)
  rcases Int.lt_or_le (jx - aW) 0 with c1 | c1
  ·have e:hasB (⟨⟨⟨bh,aQ,aP⟩,aW⟩,aY⟩:Ao) (⟨⟨lx,lu,lW⟩,jx⟩:eE)=false:=by
    have : ¬aW≤jx:=by omega
    simp[hasB,this]
   simp[ah,ai,ae,af,ad, *,oY]
  ·have c1' : ¬jx - aW<0:=by omega
   rcases Int.lt_or_le (jx - aW) aY with c2 | c2
   rotate_left
   ·have e:hasB (⟨⟨⟨bh,aQ,aP⟩,aW⟩,aY⟩:Ao) (⟨⟨lx,lu,lW⟩,jx⟩:eE)=false:=by
     have : ¬jx<aW+aY:=by omega
     simp[hasB,this]
    simp[ah,ai,ae,af,ad, *,oY]
   ·have c2' : ¬aY≤jx - aW:=by omega
    have c3:aW≤jx:=by omega
    have c4:jx<aW+aY:=by omega
    have hS:decide ((⟨bh,aQ,aP⟩:vU)=⟨lx,lu,lW⟩)=(decide (lx=bh)&&decide (lu=aQ)&&decide (lW=aP)):=by
     simp[Bool.and_assoc,eq_comm]
    have e:hasB (⟨⟨⟨bh,aQ,aP⟩,aW⟩,aY⟩:Ao) (⟨⟨lx,lu,lW⟩,jx⟩:eE)=(decide (lx=bh)&&decide (lu=aQ)&&decide (lW=aP)):=by
     rw[←hS];simp only[hasB,hb,c3,c4,decide_true,Bool.and_true,Bool.true_and]
    rw[e]
    clear e hS
    cases hA:(decide (lx=bh)&&decide (lu=aQ)&&decide (lW=aP)) with
    | false=>simp[ah,ai,ae,af,ad, *,oY,lZ,gb]
    | true=>simp[ah,ai,ae,af,ad, *,oY,lZ,gb]
def qq(t:jz):List jz→Nat→Int
 | [],_ => -1
 | a :: l,k=>if t=a then k else qq t l (k+1)
theorem JC(t:jz)(l:List jz) : ∀k:Nat,(0≤qq t l k↔t∈l):=by
 induction l with
 | nil=>intro k;simp[qq]
 | cons a l ih =>
  intro k
  unfold qq
  by_cases h:t=a
  ·simp[h]
  ·rw[if_neg h,ih];simp[h]
theorem HC{x0:AV}{Q:AV→ab→Prop}{l:List jz}(hx:Sl 2 (xB l) x0)(hl:l.length<4611686018427387904){a:UInt8}{b:UInt32}{r3:Ref}{H:ab}(hB:H.get r3=some ⟨2,[.agg [a8 a,aG b]],false,false⟩) :
 ∀(s:List jz)(k:Nat)(i:Int),l.drop k=s→k≤l.length→i=k→(∀y,y=aI (qq ⟨a,b⟩ s k)→Q y H) →
 bT env Tryz.f173 0 bE [(8,aI i),(0,x0),(3,.ptr r3 0 0),(7,aI l.length)] H Q:=by
 intro s
 induction s with
 | nil =>
  rintro k i hs hk rfl hQ
  obtain rfl:=drop_nil hs hk
  refine dp _ _ _ _ _ _ fun g=>?_
  simp[ah,ai,ae,af,ad, *,bF]
  all_goals exact hQ _ rfl
 | cons t s ih =>
  rintro k i hs hk rfl hQ
  obtain⟨t1,t2⟩:=t
  obtain⟨hlt,hg,hs',hg'⟩:=drop_cons hs
  refine dp _ _ _ _ _ _ fun g=>?_
  have e3:=IntWalk.i64_in ((k:Int)+1) (by omega)
  have hT:((⟨a,b⟩:jz)=⟨t1,t2⟩)=((decide (a=t1)&&decide (b=t2))=true):=by simp
  cases hA:(decide (a=t1)&&decide (b=t2)) with
  | true =>
   rw[hA]at hT
   have e:qq ⟨a,b⟩ (⟨t1,t2⟩ :: s) k=k:=by unfold qq;rw[if_pos (by rw[hT])]
   clear hT
   simp[ah,ai,ae,af,ad, *,bF,hx.idx,xB,lZ,gb]
   all_goals exact hQ _ (by simp[e])
  | false =>
   rw[hA]at hT
   have e:qq ⟨a,b⟩ (⟨t1,t2⟩ :: s) k=qq ⟨a,b⟩ s (k+1):=by
    rw[qq,if_neg (by rw[hT];simp)]
   clear hT
   simp[ah,ai,ae,af,ad, *,bF,hx.idx,xB,lZ,gb]
   exact ih (k+1) _ hs' (by omega) (by simp) (fun y ey=>hQ y (by rw[ey,e]))
section
variable{x:AV}{l:List jz}(hx:Sl 2 (xB l) x)(hl:l.length<4611686018427387904)
include hx hl
theorem Nt(a:UInt8)(b:UInt32):bj env 173 [x,.agg [a8 a,aG b]]=some (aI (qq ⟨a,b⟩ l 0)):=by
 refine aK (fn:=Tryz.f173) (c:=cb) rfl (by kernel_rfl) (by kernel_rfl) (by kernel_rfl) (by kernel_rfl) ?_;refine fI _ _ _ _ fun g=>?_
 have h:=hx.len
 simp[ah,ai,ae,af,ad, *,dH]
 exact HC hx hl (a:=a) (b:=b) (by simp) l 0 _ rfl (by omega) rfl (fun y e=>by simp[e])
theorem uX(a:UInt8)(b:UInt32):bj env 171 [x,.agg [a8 a,aG b]]=some (aB (decide (⟨a,b⟩∈l))):=by
 refine aK (fn:=Tryz.f171) (c:=de) rfl (by kernel_rfl) (by kernel_rfl) (by kernel_rfl) (by kernel_rfl) ?_;refine fj _ _ _ _ fun g=>?_
 have h:=Nt hx hl a b
 have e:=JC ⟨a,b⟩ l 0
 simp[ah,ai,ae,af,ad, *,df,hx.r]
end
structure Ec (r r7 q:Ref) (c:Option Nat) (info:AV) (H:ab) (out:List jz):Prop where
 fr:Fr H
 mark:H.get r=some (iC 0 info)
 box:H.get r7=some ⟨1,[.cM q 0 out.length c],false,false⟩
 row:H.get q=some ⟨2,xB out,true,false⟩
 cap:(c=none∧q.d=2∧q.t=25∧2≤out.length)∨(c=some out.length∧out.length=1)
 n1:r7≠r
 n2:q≠r
 n3:q≠r7
theorem Jq{r r7 q:Ref}{c:Option Nat}{tm:List AV}{H:ab}{out:List jz}{ps:List Tmp}(hps:ps=[17])(htm:cU tm 7 = .ptr r7 0 0)(hI:Ec r r7 q c (.lp 0 27 ps dM dL tm) H out)(hlen:out.length<1000000)(a:UInt8)(b:UInt32) :
 ∃y H',bV env 1 (.yld r) [.agg [a8 a,aG b]] H=some (y,H')∧(y=aB true ∧∃q' c',Ec r r7 q' c' (.lp 0 27 ps dM dL tm) H' (xM out ⟨a,b⟩)):=by
 subst hps
 refine L1 (fn:=Tryz.f172) (dep:=1) hI.mark (by kernel_rfl) rfl rfl (by kernel_rfl) (by kernel_rfl) ?_
 rw[←He (s:=cU (rW tm [17] [.agg [a8 a,aG b]])) (l:=[(7,.ptr r7 0 0),(17,.agg [a8 a,aG b])]) (by
  intro p hp
  simp only[List.mem_cons,List.not_mem_nil,or_false]at hp
  rcases hp with rfl | rfl
  ·show cU (tn tm 17 _) 7=_
   rw[lN]
   simpa using htm
  ·show cU (tn tm 17 _) 17=_
   rw[lN]
   simp)]
 refine(wC r _ _ _ _ fun g=>?_).h _
 obtain⟨fr,mark,box,row,cap,n1,n2,n3⟩:=hI
 have n1':=n1.symm
 have n2':=n2.symm
 have n3':=n3.symm
 have l1:(H.get r).isSome=true:=by rw[mark];rfl
 have l2:(H.get r7).isSome=true:=by rw[box];rfl
 have l3:(H.get q).isSome=true:=by rw[row];rfl
 have f1:out.length+1≤17592186044416:=by omega
 have f2:(out.length+1) * 8≤140737488355328:=by omega
 have ha:(⟨a,b⟩:jz) ∉ out→xM out ⟨a,b⟩=out++[⟨a,b⟩]:=fun h=>by unfold xM;rw[if_neg h]
 rcases cap with ⟨rfl,q1,q2,q3⟩ | ⟨rfl,q3'⟩
 ·obtain⟨qd,qt,qg,qk⟩:=q
  simp only at q1 q2
  subst q1 q2
  have hc:=uX (x := .cw 2 (xB out) none) (Sl.mk _ _) (by omega) a b
  by_cases hm:(⟨a,b⟩:jz)∈out
  ·have e:xM out ⟨a,b⟩=out:=by unfold xM;rw[if_pos hm]
   simp[ah,ai,ae,af,ad, *,hZ,rl,ab.get_put]
   refine⟨_,rfl,_,none,⟨by simp(maxDischargeDepth:=12) [ab.get_put,aq,an,Fr.nil,aD,ah,ai,ae,af,ar,ao,ad, *],by simp(maxDischargeDepth:=12) [ab.get_put,aq,an,Fr.nil,aD,ah,ai,ae,af,ar,ao,ad, *],by simp(maxDischargeDepth:=12) [ab.get_put,aq,an,Fr.nil,aD,ah,ai,ae,af,ar,ao,ad, *],by simp(maxDischargeDepth:=12) [ab.get_put,aq,an,Fr.nil,aD,ah,ai,ae,af,ar,ao,ad, *],.inl ⟨rfl,rfl,rfl,by first | exact q3 | (rw[e];exact q3)⟩,n1,n2,n3⟩⟩
  ·replace ha:=ha hm
   simp[ah,ai,ae,af,ad, *,hZ,rl,ab.get_put]
   refine⟨_,rfl,⟨2,25,H.gen 2 25,0⟩,none,⟨by simp(maxDischargeDepth:=12) [ab.get_put,aq,an,Fr.nil,aD,ah,ai,ae,af,ar,ao,ad, *],by simp(maxDischargeDepth:=12) [ab.get_put,aq,an,Fr.nil,aD,ah,ai,ae,af,ar,ao,ad, *],by simp(maxDischargeDepth:=12) [ab.get_put,aq,an,Fr.nil,aD,ah,ai,ae,af,ar,ao,ad, *],?_,.inl ⟨rfl,rfl,rfl,by simp[ha];omega⟩,by simp(maxDischargeDepth:=12) [ab.get_put,aq,an,Fr.nil,aD,ah,ai,ae,af,ar,ao,ad, *],by simp(maxDischargeDepth:=12) [ab.get_put,aq,an,Fr.nil,aD,ah,ai,ae,af,ar,ao,ad, *],by simp(maxDischargeDepth:=12) [ab.get_put,aq,an,Fr.nil,aD,ah,ai,ae,af,ar,ao,ad, *]⟩⟩
   simp[ab.get_put,xB,ha]
 ·have q3:out.length≤1∧1≤out.length:=by omega
  clear q3'
  have hc:=uX (x := .cw 2 (xB out) (some out.length)) (.inr ⟨_,rfl,by simp⟩) (by omega) a b
  by_cases hm:(⟨a,b⟩:jz)∈out
  ·have e:xM out ⟨a,b⟩=out:=by unfold xM;rw[if_pos hm]
   simp[ah,ai,ae,af,ad, *,hZ,rl,ab.get_put]
   refine⟨_,rfl,_,some out.length,⟨by simp(maxDischargeDepth:=12) [ab.get_put,aq,an,Fr.nil,aD,ah,ai,ae,af,ar,ao,ad, *],by simp(maxDischargeDepth:=12) [ab.get_put,aq,an,Fr.nil,aD,ah,ai,ae,af,ar,ao,ad, *],by simp(maxDischargeDepth:=12) [ab.get_put,aq,an,Fr.nil,aD,ah,ai,ae,af,ar,ao,ad, *],by simp(maxDischargeDepth:=12) [ab.get_put,aq,an,Fr.nil,aD,ah,ai,ae,af,ar,ao,ad, *],.inr ⟨by first | rfl | rw[e],by first | omega | (rw[e];omega)⟩,n1,n2,n3⟩⟩
  ·replace ha:=ha hm
   simp[ah,ai,ae,af,ad, *,hZ,rl,ab.get_put]
   refine⟨_,rfl,⟨2,25,H.gen 2 25,0⟩,none,⟨by simp(maxDischargeDepth:=12) [ab.get_put,aq,an,Fr.nil,aD,ah,ai,ae,af,ar,ao,ad, *],by simp(maxDischargeDepth:=12) [ab.get_put,aq,an,Fr.nil,aD,ah,ai,ae,af,ar,ao,ad, *],by simp(maxDischargeDepth:=12) [ab.get_put,aq,an,Fr.nil,aD,ah,ai,ae,af,ar,ao,ad, *],?_,.inl ⟨rfl,rfl,rfl,by simp[ha];omega⟩,by simp(maxDischargeDepth:=12) [ab.get_put,aq,an,Fr.nil,aD,ah,ai,ae,af,ar,ao,ad, *],by simp(maxDischargeDepth:=12) [ab.get_put,aq,an,Fr.nil,aD,ah,ai,ae,af,ar,ao,ad, *],by simp(maxDischargeDepth:=12) [ab.get_put,aq,an,Fr.nil,aD,ah,ai,ae,af,ar,ao,ad, *]⟩⟩
   simp[ab.get_put,xB,ha]
theorem Ec.cons{r r7 q:Ref}{c:Option Nat}{info:AV}{H:ab}{out:List jz}(h:Ec r r7 q c info H out)(d t:Nat)(b:Option bN):Ec r r7 q c info ((⟨d,t,H.gen d t,0⟩,b) :: H) out:=by
 obtain⟨fr,mark,box,row,cap,n1,n2,n3⟩:=h
 have l1:(H.get r).isSome=true:=by rw[mark];rfl
 have l2:(H.get r7).isSome=true:=by rw[box];rfl
 have l3:(H.get q).isSome=true:=by rw[row];rfl
 exact⟨by simp(maxDischargeDepth:=12) [ab.get_put,aq,an,Fr.nil,aD,ah,ai,ae,af,ar,ao,ad, *],by simp(maxDischargeDepth:=12) [ab.get_put,aq,an,Fr.nil,aD,ah,ai,ae,af,ar,ao,ad, *],by simp(maxDischargeDepth:=12) [ab.get_put,aq,an,Fr.nil,aD,ah,ai,ae,af,ar,ao,ad, *],by simp(maxDischargeDepth:=12) [ab.get_put,aq,an,Fr.nil,aD,ah,ai,ae,af,ar,ao,ad, *],cap,n1,n2,n3⟩
theorem GZ{r r7:Ref}{tm:List AV}(htm:cU tm 7 = .ptr r7 0 0){l:List (bG × AV)}{x9:AV}(hx:Sl 17 (eV l) x9)(hall : ∀p∈l,Jm p)(hl:l.length<100000)(lx:UInt8)(lu:UInt32)(lW:UInt8)(jx:Int)(hb0 : -4611686018427387904<jx)(hb1:jx<4611686018427387904)(v1:UInt8)(v2:UInt32){Q:AV→ab→Prop} :
 ∀(s:List (bG × AV)) (k:Nat) (i:Int) (out:List jz) (q:Ref) (c:Option Nat) (H:ab),l.drop k=s→k≤l.length→i=k→out.length≤k+1 →
 Ec r r7 q c (.lp 0 27 [17] dM dL tm) H out →
 (∀y q' c' H',Ec r r7 q' c' (.lp 0 27 [17] dM dL tm) H' (sJ out (opsOf s) (⟨⟨lx,lu,lW⟩,jx⟩:eE) ⟨v1,v2⟩)→Q y H') →
 bT env Tryz.f175 (0+1) jE [(11,aI i),(0,.yld r),(3,.iptr 2 [.agg [a8 v1,aG v2]] 0 0),(2,.iptr 4 [.agg [a8 lx,aG lu,a8 lW,aI jx]] 0 0),(9,x9),(10,aI l.length)] H Q:=by
 intro s
 induction s with
 | nil =>
  rintro k i out q c H hs hk rfl ho hI hQ
  obtain rfl:=drop_nil hs hk
  refine pK _ _ _ _ _ _ _ _ _ fun g=>?_
  simp[ah,ai,ae,af,ad, *,fB]
  exact hQ _ _ _ _ hI
 | cons p s ih =>
  rintro k i out q c H hs hk rfl ho hI hQ
  obtain⟨hlt,hg,hs',hg'⟩:=drop_cons hs
  have hp:=hall p (by rw[←hg];exact List.getElem_mem _)
  obtain⟨⟨bh,⟨aQ,aP,aW⟩,aY,⟨⟨⟨bc,ba,bf⟩,bg⟩,au⟩,⟨⟨az,ay,ax⟩,aw⟩,⟨aC,aA⟩,al⟩,x⟩:=p
  obtain⟨hpx,hpl⟩:=hp
  simp only at hpx hpl
  refine pK _ _ _ _ _ _ _ _ _ fun g=>?_
  have e3:=IntWalk.i64_in ((k:Int)+1) (by omega)
  have hh:=W5 bc ba bf bg au lx lu lW jx hb0 hb1
  have hI2:=hI.cons 1 6 (some ⟨17,[.agg [a8 bh,a8 aQ,aG aP,a8 aW,aI aY,a8 bc,aG ba,a8 bf,aI bg,aI au,a8 az,aG ay,a8 ax,aI aw,a8 aC,aG aA,x]],false,false⟩)
  have hmf:sJ out (opsOf (((⟨bh,⟨aQ,aP,aW⟩,aY,⟨⟨⟨bc,ba,bf⟩,bg⟩,au⟩,⟨⟨az,ay,ax⟩,aw⟩,⟨aC,aA⟩,al⟩:bG),x) :: s)) (⟨⟨lx,lu,lW⟩,jx⟩:eE) ⟨v1,v2⟩=sJ (if lB (⟨bh,⟨aQ,aP,aW⟩,aY,⟨⟨⟨bc,ba,bf⟩,bg⟩,au⟩,⟨⟨az,ay,ax⟩,aw⟩,⟨aC,aA⟩,al⟩:bG) (⟨⟨lx,lu,lW⟩,jx⟩:eE) ⟨v1,v2⟩ then xM out ⟨aC,aA⟩ else out) (opsOf s) (⟨⟨lx,lu,lW⟩,jx⟩:eE) ⟨v1,v2⟩:=rfl
  have hfr:=hI.fr
  by_cases hk3:bh=3
  rotate_left
  ·have hr:lB (⟨bh,⟨aQ,aP,aW⟩,aY,⟨⟨⟨bc,ba,bf⟩,bg⟩,au⟩,⟨⟨az,ay,ax⟩,aw⟩,⟨aC,aA⟩,al⟩:bG) (⟨⟨lx,lu,lW⟩,jx⟩:eE) ⟨v1,v2⟩=false:=by simp[lB,hk3]
   rw[hr,if_neg (by decide)]at hmf
   cases hb:hasB ⟨⟨⟨bc,ba,bf⟩,bg⟩,au⟩ (⟨⟨lx,lu,lW⟩,jx⟩:eE)<;>simp[ah,ai,ae,af,ad, *,fB,hx.idx,eV,FQ,hpx.r]
   all_goals exact ih (k+1) _ out q c _ hs' (by omega) (by simp) (by omega) hI2 (fun y q' c' H' hm=>hQ y q' c' H' (by rw[hmf];exact hm))
  ·subst hk3
   cases hb:hasB ⟨⟨⟨bc,ba,bf⟩,bg⟩,au⟩ (⟨⟨lx,lu,lW⟩,jx⟩:eE) with
   | false =>
    have hr:lB (⟨3,⟨aQ,aP,aW⟩,aY,⟨⟨⟨bc,ba,bf⟩,bg⟩,au⟩,⟨⟨az,ay,ax⟩,aw⟩,⟨aC,aA⟩,al⟩:bG) (⟨⟨lx,lu,lW⟩,jx⟩:eE) ⟨v1,v2⟩=false:=by simp[lB,hb]
    rw[hr,if_neg (by decide)]at hmf
    simp[ah,ai,ae,af,ad, *,fB,hx.idx,eV,FQ,hpx.r]
    exact ih (k+1) _ out q c _ hs' (by omega) (by simp) (by omega) hI2 (fun y q' c' H' hm=>hQ y q' c' H' (by rw[hmf];exact hm))
   | true =>
    cases hq:nP ⟨aQ,aP⟩ ⟨v1,v2⟩ with
    | false =>
     have hr:lB (⟨3,⟨aQ,aP,aW⟩,aY,⟨⟨⟨bc,ba,bf⟩,bg⟩,au⟩,⟨⟨az,ay,ax⟩,aw⟩,⟨aC,aA⟩,al⟩:bG) (⟨⟨lx,lu,lW⟩,jx⟩:eE) ⟨v1,v2⟩=false:=by simp[lB,hb,JZ,hq]
     rw[hr,if_neg (by decide)]at hmf
     simp[ah,ai,ae,af,ad, *,fB,hx.idx,eV,FQ,hpx.r]
     exact ih (k+1) _ out q c _ hs' (by omega) (by simp) (by omega) hI2 (fun y q' c' H' hm=>hQ y q' c' H' (by rw[hmf];exact hm))
    | true =>
     have hr:lB (⟨3,⟨aQ,aP,aW⟩,aY,⟨⟨⟨bc,ba,bf⟩,bg⟩,au⟩,⟨⟨az,ay,ax⟩,aw⟩,⟨aC,aA⟩,al⟩:bG) (⟨⟨lx,lu,lW⟩,jx⟩:eE) ⟨v1,v2⟩=true:=by simp[lB,hb,JZ,hq]
     rw[hr,if_pos rfl]at hmf
     obtain⟨y,H',hy,rfl,q',c',hI'⟩:=Jq rfl htm hI2 (by omega) aC aA
     simp[ah,ai,ae,af,ad, *,fB,hx.idx,eV,FQ,hpx.r,Ip]
     exact ih (k+1) _ _ q' c' _ hs' (by omega) (by simp) (by have:=Iy out ⟨aC,aA⟩;omega) hI' (fun y q' c' H' hm=>hQ y q' c' H' (by rw[hmf];exact hm))
theorem Ja{r r7 q:Ref}{c:Option Nat}{tm:List AV}{H:ab}{out:List jz}(htm:cU tm 7 = .ptr r7 0 0){l:List (bG × AV)}{x:AV}(hx:Sl 17 (eV l) x)(hall : ∀p∈l,Jm p)(hl:l.length<100000)(lx:UInt8)(lu:UInt32)(lW:UInt8)(jx:Int)(hb0 : -4611686018427387904<jx)(hb1:jx<4611686018427387904)(v1:UInt8)(v2:UInt32)
 (ho:out.length≤1) (hI:Ec r r7 q c (.lp 0 27 [17] dM dL tm) H out) :
 ∃y H',bV env 0 (.fn 175) [.yld r,.iptr 1 [x] 0 0,.iptr 4 [.agg [a8 lx,aG lu,a8 lW,aI jx]] 0 0,.iptr 2 [.agg [a8 v1,aG v2]] 0 0] H=some (y,H') ∧∃q' c',Ec r r7 q' c' (.lp 0 27 [17] dM dL tm) H' (sJ out (opsOf l) (⟨⟨lx,lu,lW⟩,jx⟩:eE) ⟨v1,v2⟩):=by
 refine my (fn:=Tryz.f175) (c:=n8) (by kernel_rfl) (by kernel_rfl) (by kernel_rfl) (by kernel_rfl) (by kernel_rfl) ?_
 refine ya _ _ _ _ _ _ _ fun g=>?_
 simp[ah,ai,ae,af,ad, *,rR,hx.r]
 exact GZ htm hx hall hl lx lu lW jx hb0 hb1 v1 v2 l 0 _ out q c H rfl (by omega) rfl (by omega) hI (fun y q' c' H' hm=>⟨q',c',hm⟩)
theorem Qi:gX = .code (.rangeFunc (.tmp 16) #[17] dM dL) :: pL:=by kernel_rfl
def Mm(out:List jz):Option Nat:=if out.length=1 then some 1 else none
theorem Lf{l:List (bG × AV)}{x:AV}(hx:Sl 17 (eV l) x)(lx:UInt8)(lu:UInt32)(lW:UInt8)(jx:Int)(v1:UInt8)(v2:UInt32):bj env 174 [x,.agg [a8 lx,aG lu,a8 lW,aI jx],.agg [a8 v1,aG v2]]=some (.fn (.func 175) [] [.iptr 1 [x] 0 0,.iptr 4 [.agg [a8 lx,aG lu,a8 lW,aI jx]] 0 0,.iptr 2 [.agg [a8 v1,aG v2]] 0 0]):=by
 refine aK (fn:=Tryz.f174) (c:=uA) rfl (by kernel_rfl) (by kernel_rfl) (by kernel_rfl) (by kernel_rfl) ?_;refine AZ _ _ _ _ _ fun g=>?_
 simp[ah,ai,ae,af,ad, *,uH,hx.r]
theorem SO{l:List (bG × AV)}{x:AV}(hx:Sl 17 (eV l) x)(hall : ∀p∈l,Jm p)(hl:l.length<100000)(lx:UInt8)(lu:UInt32)(lW:UInt8)(jx:Int)(hb0 : -4611686018427387904<jx)(hb1:jx<4611686018427387904)(v1:UInt8)(v2:UInt32) :
 bj env 172 [x,.agg [a8 lx,aG lu,a8 lW,aI jx],.agg [a8 v1,aG v2]]=some (.cw 2 (xB (vc (opsOf l) (⟨⟨lx,lu,lW⟩,jx⟩:eE) ⟨v1,v2⟩)) (Mm (vc (opsOf l) (⟨⟨lx,lu,lW⟩,jx⟩:eE) ⟨v1,v2⟩))):=by
 refine aK (fn:=Tryz.f172) (c:=sg) rfl (by kernel_rfl) (by kernel_rfl) (by kernel_rfl) (by kernel_rfl) ?_;refine Dv _ _ _ _ _ fun g=>?_
 have hr:=Lf hx lx lu lW jx v1 v2
 have hcap : ∀ {r r7 q c info H out},Ec r r7 q c info H out→c=Mm out:=by
  intro r r7 q c info H out h
  rcases h.cap with ⟨h1,_,_,h2⟩ | ⟨h1,h2⟩
  ·rw[h1,Mm,if_neg (by omega)]
  ·rw[h1,Mm,if_pos h2,h2]
 simp[ah,ai,ae,af,ad, *,xk,hx.r]
 rw[Qi]
 refine⟨fun g'=>JJ (gi:=175) (first:=[]) (captured:=[.iptr 1 [x] 0 0,.iptr 4 [.agg [a8 lx,aG lu,a8 lW,aI jx]] 0 0,.iptr 2 [.agg [a8 v1,aG v2]] 0 0]) rfl ?_⟩
 intro tm ht
 have e7:cU tm 7 = .ptr ⟨0,7,0,0⟩ 0 0:=(ht 7).trans rfl
 rw[show Tryz.f172.ntmps=27 from by kernel_rfl]
 obtain⟨y,H',hy,q',c',hm⟩:=Ja (r:=⟨0,27,0,0⟩) (r7:=⟨0,7,0,0⟩) (q:=⟨0,12,0,0⟩) (c:=some 1) (tm:=tm) (out:=[⟨lx,lu⟩])
  (H:=(⟨0,27,0,0⟩,some (iC 0 (.lp 0 27 [17] dM dL tm))) :: [(⟨0,7,0,0⟩,some ⟨1,[.cM ⟨0,12,0,0⟩ 0 1 (some 1)],false,false⟩),(⟨0,12,0,0⟩,some ⟨2,[.agg [a8 lx,aG lu]],true,false⟩),(⟨0,5,0,0⟩,some ⟨2,[.agg [a8 v1,aG v2]],false,false⟩),(⟨0,4,0,0⟩,some ⟨4,[.agg [a8 lx,aG lu,a8 lW,aI jx]],false,false⟩)])
  e7 hx hall hl lx lu lW jx hb0 hb1 v1 v2 (by simp) ⟨by simp(maxDischargeDepth:=12) [aq,an,Fr.nil,aD,ah,ai,ae,af,ar,ao,ad, *],by simp,by simp,by simp[xB],.inr ⟨rfl,rfl⟩,by decide,by decide,by decide⟩
 refine⟨y,H',0,_,by simpa using hy,by simp only[ab.HM,ab.QV];rw[rl];exact(congrArg ZH hm.mark).trans (yS _ _),.inl ⟨rfl,?_⟩⟩
 have hs:=He (s:=Kw g' [(16,AV.fn (.func 175) [] [.iptr 1 [x] 0 0,.iptr 4 [.agg [a8 lx,aG lu,a8 lW,aI jx]] 0 0,.iptr 2 [.agg [a8 v1,aG v2]] 0 0]),(7,AV.ptr ⟨0,7,0,0⟩ 0 0)]) (l:=[(7,AV.ptr ⟨0,7,0,0⟩ 0 0)]) (by
  intro p hp
  simp only[List.mem_cons,List.not_mem_nil,or_false]at hp
  subst hp
  rfl)
 rw[←hs]
 refine(uR _ _ _ fun g=>?_).h _
 have n1:(⟨0,7,0,0⟩:Ref)≠⟨0,27,0,0⟩:=hm.n1
 have n2:=hm.n2
 have hbx:=hm.box
 have hrw:=hm.row
 have hc:=hcap hm
 subst hc
 have hle:(sJ [⟨lx,lu⟩] (opsOf l) (⟨⟨lx,lu,lW⟩,jx⟩:eE) ⟨v1,v2⟩)=vc (opsOf l) (⟨⟨lx,lu,lW⟩,jx⟩:eE) ⟨v1,v2⟩:=rfl
 rw[hle]at hbx hrw
 simp[ah,ai,ae,af,ad, *,px,ab.get_put]
end Go.Proofs.YtdbiffjdomokfaaGreat
