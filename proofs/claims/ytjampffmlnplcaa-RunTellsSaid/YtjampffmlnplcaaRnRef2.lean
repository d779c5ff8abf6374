/-
  The document's runs: cut, joined, of an insert. No statement of a seat is proved here.
-/
import Derived.Test.YtjampffmlnplcaaRnRef
set_option linter.unusedVariables false
set_option linter.unusedSimpArgs false
set_option linter.unusedSectionVars false
set_option linter.unnecessarySimpa false
set_option maxRecDepth 100000
namespace Go.Proofs.Ytjampffmlnplcaa
open Go.Ab
attribute [local simp] fK ek iQ own3 iR eo keep thr fL ew eu ky ku dJ List.take_of_length_le
section
variable(a_1:UInt8)(a_2:UInt32)(a_3:UInt8)(a_4:Int)(a_5:Int)(a_6:UInt8)(a_7:UInt32)(a_8:UInt8)(a_9:Int)(n:Int){x:AV}{l:List Int}(hx:Sl 1 (rows l) x)(hl:l.length<1000000)(h0:1≤n)(h1:n<l.length)(b0:1≤a_4)(b1:a_4≤1099511627776)
include hx hl h0 h1 b0 b1
theorem tB:limf env 84 [.agg [a8 a_1,a32 a_2,a8 a_3,aI a_4,aI a_5,a8 a_6,a32 a_7,a8 a_8,aI a_9,x],aI 0,aI n]=some (.agg [a8 a_1,a32 a_2,a8 a_3,aI a_4,aI n,a8 a_6,a32 a_7,a8 a_8,aI a_9,.isl 1 (rows (l.take n.toNat)) none]):=by
 have w1:IntKind.i64.wrap (a_4+0)=a_4:=by rw[Int.add_zero];exact IntWalk.i64_in _ (by omega)
 have h3:=mi a_1 a_2 a_3 a_4 a_5 a_6 a_7 a_8 a_9 0 hx
 have h4:=k8 a_1 a_2 a_3 a_4 a_5 a_6 a_7 a_8 a_9 0 hx (by omega) (by omega)
 rw[w1]at h3
 rw[if_pos rfl]at h4
 have w2:=IntWalk.i64_in n (by omega)
 obtain⟨c,rfl,hc⟩:=hx.islN (fD (by omega))
 have lt:((l.take n.toNat).length:Int)=n:=by rw[List.length_take];omega
 have p1:=fun c'=>kH a_1 a_2 a_3 a_4 n a_6 a_7 a_8 a_9 c' (l:=l.take n.toNat) (by omega) (by omega)
 have g0:0≤n:=by omega
 have g1:n≤l.length:=by omega
 have g2:n.toNat≤l.length:=by omega
 have fl:=aF (l.take n.toNat)
 refine aC (fn:=Try.f84) (c:=dt) rfl (by kernel_rfl) (by kernel_rfl) (by kernel_rfl) (by kernel_rfl) ?_;refine eV _ _ _ _ _ fun g=>?_
 clear lt h0 h1
 simp[ar,au,ae,af,ab, *,dv,hx.r]
theorem tA(m:Int)(hm:n+m=l.length):limf env 84 [.agg [a8 a_1,a32 a_2,a8 a_3,aI a_4,aI a_5,a8 a_6,a32 a_7,a8 a_8,aI a_9,x],aI n,aI m]=some (.agg [a8 a_1,a32 a_2,a8 a_3,aI (a_4+n),aI m,a8 a_1,a32 a_2,a8 a_3,aI (a_4+(n - 1)),.isl 1 (rows (l.drop n.toNat)) none]):=by
 have w1:=IntWalk.i64_in (a_4+n) (by omega)
 have w3:=IntWalk.i64_in (a_4+(n - 1)) (by omega)
 have h3:=mi a_1 a_2 a_3 a_4 a_5 a_6 a_7 a_8 a_9 n hx
 have h4:=k8 a_1 a_2 a_3 a_4 a_5 a_6 a_7 a_8 a_9 n hx (by omega) (by omega)
 rw[w1]at h3
 rw[if_neg (by omega),w3]at h4
 have w2:IntKind.i64.wrap (n+m)=l.length:=by rw[hm];exact IntWalk.i64_in _ (by omega)
 obtain⟨c,rfl,hc⟩:=hx.islN (fD (by omega))
 have ld:((l.drop n.toNat).length:Int)=m:=by rw[List.length_drop];omega
 have p1:=fun c'=>kH a_1 a_2 a_3 (a_4+n) m a_1 a_2 a_3 (a_4+(n - 1)) c' (l:=l.drop n.toNat) (by omega) (by omega)
 have g0:0≤n:=by omega
 have g1:n≤l.length:=by omega
 have g2:n.toNat≤l.length:=by omega
 have fl:=aF (l.drop n.toNat)
 refine aC (fn:=Try.f84) (c:=dt) rfl (by kernel_rfl) (by kernel_rfl) (by kernel_rfl) (by kernel_rfl) ?_;refine eV _ _ _ _ _ fun g=>?_
 clear ld h0 h1 hm
 simp[ar,au,ae,af,ab, *,dv,hx.r]
end
theorem xk(a_1:UInt8)(a_2:UInt32)(a_3:UInt8)(a_4:Int)(a_5:Int)(a_6:UInt8)(a_7:UInt32)(a_8:UInt8)(a_9:Int)(n:Int){x:AV}{l:List Int}(hx:Sl 1 (rows l) x)(hl:l.length<1000000)(hR:fR l):limf env 27 [.agg [a8 a_1,a32 a_2,a8 a_3,aI a_4,aI a_5,a8 a_6,a32 a_7,a8 a_8,aI a_9,x],aI n] =
 some (if gu (⟨⟨⟨⟨a_1,a_2,a_3⟩,a_4⟩,a_5⟩,⟨⟨a_6,a_7,a_8⟩,a_9⟩,l⟩:Rn) n=0 then .tup [.agg [a8 a_1,a32 a_2,a8 a_3,aI a_4,aI n,a8 a_6,a32 a_7,a8 a_8,aI a_9,.isl 1 (rows (l.take n.toNat)) none],.agg [a8 a_1,a32 a_2,a8 a_3,aI (a_4+n),aI (a_5 - n),a8 a_1,a32 a_2,a8 a_3,aI (a_4+(n - 1)),.isl 1 (rows (l.drop n.toNat)) none],aI 0]
 else .tup [.agg [a8 0,a32 0,a8 0,aI 0,aI 0,a8 0,a32 0,a8 0,aI 0,aNil],.agg [a8 0,a32 0,a8 0,aI 0,aI 0,a8 0,a32 0,a8 0,aI 0,aNil],aI (gu (⟨⟨⟨⟨a_1,a_2,a_3⟩,a_4⟩,a_5⟩,⟨⟨a_6,a_7,a_8⟩,a_9⟩,l⟩:Rn) n)]):=by
 have h1:=jc a_1 a_2 a_3 a_4 a_5 a_6 a_7 a_8 a_9 hx hl hR
 cases hb:runB (⟨⟨⟨⟨a_1,a_2,a_3⟩,a_4⟩,a_5⟩,⟨⟨a_6,a_7,a_8⟩,a_9⟩,l⟩:Rn) with
 | false =>
  have e:gu (⟨⟨⟨⟨a_1,a_2,a_3⟩,a_4⟩,a_5⟩,⟨⟨a_6,a_7,a_8⟩,a_9⟩,l⟩:Rn) n=8:=by simp[gu,hb]
  refine aC (fn:=Try.f27) (c:=bY) rfl (by kernel_rfl) (by kernel_rfl) (by kernel_rfl) (by kernel_rfl) ?_;refine cH _ _ _ _ fun g=>?_
  simp[ar,au,ae,af,ab, *,bZ,hx.r]
 | true =>
  have hr:=gh hb
  simp only at hr
  obtain⟨hsp,hlen⟩:=hr
  have hn:=dL hsp
  simp only at hn
  by_cases h3:n<1
  ·have e:gu (⟨⟨⟨⟨a_1,a_2,a_3⟩,a_4⟩,a_5⟩,⟨⟨a_6,a_7,a_8⟩,a_9⟩,l⟩:Rn) n=2:=by simp[gu,hb,h3]
   refine aC (fn:=Try.f27) (c:=bY) rfl (by kernel_rfl) (by kernel_rfl) (by kernel_rfl) (by kernel_rfl) ?_;refine cH _ _ _ _ fun g=>?_
   clear hn
   simp[ar,au,ae,af,ab, *,bZ,hx.r]
  ·by_cases h4:a_5≤n
   ·have e:gu (⟨⟨⟨⟨a_1,a_2,a_3⟩,a_4⟩,a_5⟩,⟨⟨a_6,a_7,a_8⟩,a_9⟩,l⟩:Rn) n=2:=by simp[gu,hb,h4]
    refine aC (fn:=Try.f27) (c:=bY) rfl (by kernel_rfl) (by kernel_rfl) (by kernel_rfl) (by kernel_rfl) ?_;refine cH _ _ _ _ fun g=>?_
    clear hn
    simp[ar,au,ae,af,ab, *,bZ,hx.r]
   ·have e:gu (⟨⟨⟨⟨a_1,a_2,a_3⟩,a_4⟩,a_5⟩,⟨⟨a_6,a_7,a_8⟩,a_9⟩,l⟩:Rn) n=0:=by simp[gu,hb];omega
    have p1:=tB a_1 a_2 a_3 a_4 a_5 a_6 a_7 a_8 a_9 n hx hl (by omega) (by omega) (by omega) (by omega)
    have p2:=tA a_1 a_2 a_3 a_4 a_5 a_6 a_7 a_8 a_9 n hx hl (by omega) (by omega) (by omega) (by omega) (a_5 - n) (by omega)
    have w1:=IntWalk.i64_in (a_5 - n) (by omega)
    refine aC (fn:=Try.f27) (c:=bY) rfl (by kernel_rfl) (by kernel_rfl) (by kernel_rfl) (by kernel_rfl) ?_;refine cH _ _ _ _ fun g=>?_
    clear hn hlen
    simp[ar,au,ae,af,ab, *,bZ,hx.r]
theorem wc(a b:Rn)(ha:runB a=true)(hb:runB b=true):pr a b=(decide (b.s.f=rP a.s.f a.s.many)&&(decide (b.a=rP a.s.f (a.s.many - 1))&&decide (a.s.many+b.s.many≤64))):=by
 obtain⟨⟨⟨ah,an⟩,am⟩,⟨aah,aan⟩,al⟩:=a
 obtain⟨⟨⟨bh,bn⟩,bm⟩,⟨bah,ban⟩,bl⟩:=b
 rw[Bool.eq_iff_iff]
 simp only[pr,ya,rP,runB,fm,idB,rowB,Bool.and_eq_true,Bool.or_eq_true,decide_eq_true_eq,Idd.mk.injEq,List.length_append,List.all_append]at *
 constructor
 ·rintro⟨h1,h2,h3⟩
  exact⟨h2,h3,by omega⟩
 ·rintro⟨h2,h3,h4⟩
  obtain⟨⟨⟨a1,a2⟩,a3,a4,a5⟩,a6,a7,a8,a9⟩:=ha
  obtain⟨⟨⟨b1,b2⟩,b3,b4,b5⟩,b6,b7,b8,b9⟩:=hb
  refine⟨?_,h2,h3⟩
  exact⟨⟨⟨a1,decide_eq_true a2.1,decide_eq_true a2.2⟩,decide_eq_true (by omega),decide_eq_true (by omega),decide_eq_true (by omega)⟩,a6.imp (fun h=>decide_eq_true h) (fun h=>⟨⟨h.1.1,decide_eq_true h.1.2.1,decide_eq_true h.1.2.2⟩,decide_eq_true h.2⟩),by omega,by omega,a9,b9⟩
theorem vc(a_1:UInt8)(a_2:UInt32)(a_3:UInt8)(a_4:Int)(a_5:Int)(a_6:UInt8)(a_7:UInt32)(a_8:UInt8)(a_9:Int)(b_1:UInt8)(b_2:UInt32)(b_3:UInt8)(b_4:Int)(b_5:Int)(b_6:UInt8)(b_7:UInt32)(b_8:UInt8)(b_9:Int){x y:AV}{l m:List Int}(hx:Sl 1 (rows l) x)(hy:Sl 1 (rows m) y)(hl:l.length<10000)(hm:m.length<10000)(hR:fR l)(hR2:fR m):limf env 28 [.agg [a8 a_1,a32 a_2,a8 a_3,aI a_4,aI a_5,a8 a_6,a32 a_7,a8 a_8,aI a_9,x],.agg [a8 b_1,a32 b_2,a8 b_3,aI b_4,aI b_5,a8 b_6,a32 b_7,a8 b_8,aI b_9,y]] =
 some (if fq (⟨⟨⟨⟨a_1,a_2,a_3⟩,a_4⟩,a_5⟩,⟨⟨a_6,a_7,a_8⟩,a_9⟩,l⟩:Rn) (⟨⟨⟨⟨b_1,b_2,b_3⟩,b_4⟩,b_5⟩,⟨⟨b_6,b_7,b_8⟩,b_9⟩,m⟩:Rn)=0 then .tup [.agg [a8 a_1,a32 a_2,a8 a_3,aI a_4,aI (a_5+b_5),a8 a_6,a32 a_7,a8 a_8,aI a_9,.isl 1 (rows (l++m)) none],aI 0]
  else .tup [.agg [a8 0,a32 0,a8 0,aI 0,aI 0,a8 0,a32 0,a8 0,aI 0,aNil],aI (fq (⟨⟨⟨⟨a_1,a_2,a_3⟩,a_4⟩,a_5⟩,⟨⟨a_6,a_7,a_8⟩,a_9⟩,l⟩:Rn) (⟨⟨⟨⟨b_1,b_2,b_3⟩,b_4⟩,b_5⟩,⟨⟨b_6,b_7,b_8⟩,b_9⟩,m⟩:Rn))]):=by
 have h1:=jc a_1 a_2 a_3 a_4 a_5 a_6 a_7 a_8 a_9 hx (by omega) hR
 have h2:=jc b_1 b_2 b_3 b_4 b_5 b_6 b_7 b_8 b_9 hy (by omega) hR2
 cases ha:runB (⟨⟨⟨⟨a_1,a_2,a_3⟩,a_4⟩,a_5⟩,⟨⟨a_6,a_7,a_8⟩,a_9⟩,l⟩:Rn) with
 | false =>
  have e:fq (⟨⟨⟨⟨a_1,a_2,a_3⟩,a_4⟩,a_5⟩,⟨⟨a_6,a_7,a_8⟩,a_9⟩,l⟩:Rn) (⟨⟨⟨⟨b_1,b_2,b_3⟩,b_4⟩,b_5⟩,⟨⟨b_6,b_7,b_8⟩,b_9⟩,m⟩:Rn)=8:=by simp[fq,ha]
  refine aC (fn:=Try.f28) (c:=bk) rfl (by kernel_rfl) (by kernel_rfl) (by kernel_rfl) (by kernel_rfl) ?_;refine bF _ _ _ _ fun g=>?_
  cases hb:runB (⟨⟨⟨⟨b_1,b_2,b_3⟩,b_4⟩,b_5⟩,⟨⟨b_6,b_7,b_8⟩,b_9⟩,m⟩:Rn)<;>simp[ar,au,ae,af,ab, *,bu,hx.r,hy.r]
 | true =>
 cases hb:runB (⟨⟨⟨⟨b_1,b_2,b_3⟩,b_4⟩,b_5⟩,⟨⟨b_6,b_7,b_8⟩,b_9⟩,m⟩:Rn) with
 | false =>
  have e:fq (⟨⟨⟨⟨a_1,a_2,a_3⟩,a_4⟩,a_5⟩,⟨⟨a_6,a_7,a_8⟩,a_9⟩,l⟩:Rn) (⟨⟨⟨⟨b_1,b_2,b_3⟩,b_4⟩,b_5⟩,⟨⟨b_6,b_7,b_8⟩,b_9⟩,m⟩:Rn)=8:=by simp[fq,hb]
  refine aC (fn:=Try.f28) (c:=bk) rfl (by kernel_rfl) (by kernel_rfl) (by kernel_rfl) (by kernel_rfl) ?_;refine bF _ _ _ _ fun g=>?_
  simp[ar,au,ae,af,ab, *,bu,hx.r,hy.r]
 | true =>
 have ra:=gh ha
 have rb:=gh hb
 simp only at ra rb
 have na:=dL ra.1
 have nb:=dL rb.1
 simp only at na nb
 have hj:=wc _ _ ha hb
 simp only[rP,Idd.mk.injEq,Han.mk.injEq]at hj
 have w1:=IntWalk.i64_in (a_5+b_5) (by omega)
 have w2:=IntWalk.i64_in (a_5 - 1) (by omega)
 have w3:=IntWalk.i64_in (a_4+a_5) (by omega)
 have w4:=IntWalk.i64_in (a_4+(a_5 - 1)) (by omega)
 have i1:=mi a_1 a_2 a_3 a_4 a_5 a_6 a_7 a_8 a_9 a_5 hx
 have i2:=mi a_1 a_2 a_3 a_4 a_5 a_6 a_7 a_8 a_9 (a_5 - 1) hx
 rw[w3]at i1
 rw[w4]at i2
 obtain⟨cx,rfl,hcx⟩:=hx.islN (fD (by omega))
 have p1:=kH a_1 a_2 a_3 a_4 a_5 a_6 a_7 a_8 a_9 cx (l:=l) (by omega) (by omega)
 have l0:0<l.length:=by omega
 have m0:0<m.length:=by omega
 have l1:l≠[]:=by rintro rfl;simp at l0
 have m1:m≠[]:=by rintro rfl;simp at m0
 have fl1:=aF l
 have fl3:=aF (l++m)
 have b4:(l.length+m.length) * 4≤140737488355328:=by omega
 cases c1:(decide (b_1=a_1)&&decide (b_2=a_2)&&decide (b_3=a_3)&&decide (b_4=a_4+a_5)) with
 | false =>
  have hjb:pr (⟨⟨⟨⟨a_1,a_2,a_3⟩,a_4⟩,a_5⟩,⟨⟨a_6,a_7,a_8⟩,a_9⟩,l⟩:Rn) (⟨⟨⟨⟨b_1,b_2,b_3⟩,b_4⟩,b_5⟩,⟨⟨b_6,b_7,b_8⟩,b_9⟩,m⟩:Rn)=false:=by
   rw[hj]
   have:decide ((b_1=a_1∧b_2=a_2∧b_3=a_3)∧b_4=a_4+a_5)=false:=by
    rw[←c1];simp[and_assoc,Bool.and_assoc]
   rw[this];rfl
  have e:fq (⟨⟨⟨⟨a_1,a_2,a_3⟩,a_4⟩,a_5⟩,⟨⟨a_6,a_7,a_8⟩,a_9⟩,l⟩:Rn) (⟨⟨⟨⟨b_1,b_2,b_3⟩,b_4⟩,b_5⟩,⟨⟨b_6,b_7,b_8⟩,b_9⟩,m⟩:Rn)=2:=by simp[fq,ha,hb,hjb]
  refine aC (fn:=Try.f28) (c:=bk) rfl (by kernel_rfl) (by kernel_rfl) (by kernel_rfl) (by kernel_rfl) ?_;refine bF _ _ _ _ fun g=>?_
  clear hj na nb ra rb
  simp[ar,au,ae,af,ab, *,bu,hx.r,hy.r,eqA,eqFs]
 | true =>
 cases c2:(decide (b_6=a_1)&&decide (b_7=a_2)&&decide (b_8=a_3)&&decide (b_9=a_4+(a_5 - 1))) with
 | false =>
  have hjb:pr (⟨⟨⟨⟨a_1,a_2,a_3⟩,a_4⟩,a_5⟩,⟨⟨a_6,a_7,a_8⟩,a_9⟩,l⟩:Rn) (⟨⟨⟨⟨b_1,b_2,b_3⟩,b_4⟩,b_5⟩,⟨⟨b_6,b_7,b_8⟩,b_9⟩,m⟩:Rn)=false:=by
   rw[hj]
   have:decide ((b_6=a_1∧b_7=a_2∧b_8=a_3)∧b_9=a_4+(a_5 - 1))=false:=by
    rw[←c2];simp[and_assoc,Bool.and_assoc]
   rw[this,Bool.false_and,Bool.and_false]
  have e:fq (⟨⟨⟨⟨a_1,a_2,a_3⟩,a_4⟩,a_5⟩,⟨⟨a_6,a_7,a_8⟩,a_9⟩,l⟩:Rn) (⟨⟨⟨⟨b_1,b_2,b_3⟩,b_4⟩,b_5⟩,⟨⟨b_6,b_7,b_8⟩,b_9⟩,m⟩:Rn)=2:=by simp[fq,ha,hb,hjb]
  refine aC (fn:=Try.f28) (c:=bk) rfl (by kernel_rfl) (by kernel_rfl) (by kernel_rfl) (by kernel_rfl) ?_;refine bF _ _ _ _ fun g=>?_
  clear hj na nb ra rb
  simp[ar,au,ae,af,ab, *,bu,hx.r,hy.r,eqA,eqFs]
 | true =>
  have d1:decide ((b_1=a_1∧b_2=a_2∧b_3=a_3)∧b_4=a_4+a_5)=true:=by
   rw[←c1];simp[and_assoc,Bool.and_assoc]
  have d2:decide ((b_6=a_1∧b_7=a_2∧b_8=a_3)∧b_9=a_4+(a_5 - 1))=true:=by
   rw[←c2];simp[and_assoc,Bool.and_assoc]
  rw[d1,d2,Bool.true_and,Bool.true_and]at hj
  by_cases c3:a_5+b_5≤64
  ·have e:fq (⟨⟨⟨⟨a_1,a_2,a_3⟩,a_4⟩,a_5⟩,⟨⟨a_6,a_7,a_8⟩,a_9⟩,l⟩:Rn) (⟨⟨⟨⟨b_1,b_2,b_3⟩,b_4⟩,b_5⟩,⟨⟨b_6,b_7,b_8⟩,b_9⟩,m⟩:Rn)=0:=by simp[fq,ha,hb,hj,c3]
   have c3' : ¬64<a_5+b_5:=by omega
   refine aC (fn:=Try.f28) (c:=bk) rfl (by kernel_rfl) (by kernel_rfl) (by kernel_rfl) (by kernel_rfl) ?_;refine bF _ _ _ _ fun g=>?_
   clear hj na nb ra rb d1 d2
   simp[ar,au,ae,af,ab, *,bu,hx.r,hy.r,hy.jo,eqA,eqFs]
  ·have e:fq (⟨⟨⟨⟨a_1,a_2,a_3⟩,a_4⟩,a_5⟩,⟨⟨a_6,a_7,a_8⟩,a_9⟩,l⟩:Rn) (⟨⟨⟨⟨b_1,b_2,b_3⟩,b_4⟩,b_5⟩,⟨⟨b_6,b_7,b_8⟩,b_9⟩,m⟩:Rn)=2:=by simp[fq,ha,hb,hj,c3]
   have c3':64<a_5+b_5:=by omega
   refine aC (fn:=Try.f28) (c:=bk) rfl (by kernel_rfl) (by kernel_rfl) (by kernel_rfl) (by kernel_rfl) ?_;refine bF _ _ _ _ fun g=>?_
   clear hj na nb ra rb d1 d2
   simp[ar,au,ae,af,ab, *,bu,hx.r,hy.r,eqA,eqFs]
def ofE(o:Opn):Int:=if opB o then (if o.kind=1∧runB ⟨o.s,o.a,o.l⟩=true then 0 else 2) else 8
theorem zp(a_1:UInt8)(a_2:UInt8)(a_3:UInt32)(a_4:UInt8)(a_5:Int)(a_6:UInt8)(a_7:UInt32)(a_8:UInt8)(a_9:Int)(a_10:Int)(a_11:UInt8)(a_12:UInt32)(a_13:UInt8)(a_14:Int)(a_15:UInt8)(a_16:UInt32){x:AV}{l:List Int}(hx:Sl 1 (rows l) x)(hl:l.length<1000000)(hR:fR l):limf env 26 [.agg [a8 a_1,a8 a_2,a32 a_3,a8 a_4,aI a_5,a8 a_6,a32 a_7,a8 a_8,aI a_9,aI a_10,a8 a_11,a32 a_12,a8 a_13,aI a_14,a8 a_15,a32 a_16,x]] =
 some (if ofE (⟨a_1,⟨a_2,a_3,a_4⟩,a_5,⟨⟨⟨a_6,a_7,a_8⟩,a_9⟩,a_10⟩,⟨⟨a_11,a_12,a_13⟩,a_14⟩,⟨a_15,a_16⟩,l⟩:Opn)=0 then .tup [.agg [a8 a_6,a32 a_7,a8 a_8,aI a_9,aI a_10,a8 a_11,a32 a_12,a8 a_13,aI a_14,.isl 1 (rows l) none],aI 0]
  else .tup [.agg [a8 0,a32 0,a8 0,aI 0,aI 0,a8 0,a32 0,a8 0,aI 0,aNil],aI (ofE (⟨a_1,⟨a_2,a_3,a_4⟩,a_5,⟨⟨⟨a_6,a_7,a_8⟩,a_9⟩,a_10⟩,⟨⟨a_11,a_12,a_13⟩,a_14⟩,⟨a_15,a_16⟩,l⟩:Opn))]):=by
 have h1:=zo a_1 a_2 a_3 a_4 a_5 a_6 a_7 a_8 a_9 a_10 a_11 a_12 a_13 a_14 a_15 a_16 hx (by omega) hR
 have h2:=jc a_6 a_7 a_8 a_9 a_10 a_11 a_12 a_13 a_14 hx hl hR
 cases c1:opB (⟨a_1,⟨a_2,a_3,a_4⟩,a_5,⟨⟨⟨a_6,a_7,a_8⟩,a_9⟩,a_10⟩,⟨⟨a_11,a_12,a_13⟩,a_14⟩,⟨a_15,a_16⟩,l⟩:Opn) with
 | false =>
  have e:ofE (⟨a_1,⟨a_2,a_3,a_4⟩,a_5,⟨⟨⟨a_6,a_7,a_8⟩,a_9⟩,a_10⟩,⟨⟨a_11,a_12,a_13⟩,a_14⟩,⟨a_15,a_16⟩,l⟩:Opn)=8:=by simp[ofE,c1]
  refine aC (fn:=Try.f26) (c:=cm) rfl (by kernel_rfl) (by kernel_rfl) (by kernel_rfl) (by kernel_rfl) ?_;refine cK _ _ _ fun g=>?_
  simp[ar,au,ae,af,ab, *,cq,hx.r]
 | true =>
  by_cases c2:a_1=1
  ·subst c2
   cases c3:runB ⟨⟨⟨⟨a_6,a_7,a_8⟩,a_9⟩,a_10⟩,⟨⟨a_11,a_12,a_13⟩,a_14⟩,l⟩ with
   | false =>
    have e:ofE ⟨1,⟨a_2,a_3,a_4⟩,a_5,⟨⟨⟨a_6,a_7,a_8⟩,a_9⟩,a_10⟩,⟨⟨a_11,a_12,a_13⟩,a_14⟩,⟨a_15,a_16⟩,l⟩=2:=by simp[ofE,c1,c3]
    refine aC (fn:=Try.f26) (c:=cm) rfl (by kernel_rfl) (by kernel_rfl) (by kernel_rfl) (by kernel_rfl) ?_;refine cK _ _ _ fun g=>?_
    simp[ar,au,ae,af,ab, *,cq,hx.r]
   | true =>
    have e:ofE ⟨1,⟨a_2,a_3,a_4⟩,a_5,⟨⟨⟨a_6,a_7,a_8⟩,a_9⟩,a_10⟩,⟨⟨a_11,a_12,a_13⟩,a_14⟩,⟨a_15,a_16⟩,l⟩=0:=by simp[ofE,c1,c3]
    have hr:=gh c3
    simp only at hr
    have hn:=dL hr.1
    simp only at hn
    obtain⟨c,rfl,hc⟩:=hx.islN (fD (by omega))
    have p1:=kH a_6 a_7 a_8 a_9 a_10 a_11 a_12 a_13 a_14 c (l:=l) (by omega) (by omega)
    have fl1:=aF l
    refine aC (fn:=Try.f26) (c:=cm) rfl (by kernel_rfl) (by kernel_rfl) (by kernel_rfl) (by kernel_rfl) ?_;refine cK _ _ _ fun g=>?_
    clear hr hn
    simp[ar,au,ae,af,ab, *,cq,hx.r]
  ·have e:ofE (⟨a_1,⟨a_2,a_3,a_4⟩,a_5,⟨⟨⟨a_6,a_7,a_8⟩,a_9⟩,a_10⟩,⟨⟨a_11,a_12,a_13⟩,a_14⟩,⟨a_15,a_16⟩,l⟩:Opn)=2:=by simp[ofE,c1,c2]
   refine aC (fn:=Try.f26) (c:=cm) rfl (by kernel_rfl) (by kernel_rfl) (by kernel_rfl) (by kernel_rfl) ?_;refine cK _ _ _ fun g=>?_
   simp[ar,au,ae,af,ab, *,cq,hx.r]
theorem zm(a_1:UInt8)(a_2:UInt8)(a_3:UInt32)(a_4:UInt8)(a_5:Int)(a_6:UInt8)(a_7:UInt32)(a_8:UInt8)(a_9:Int)(a_10:Int)(a_11:UInt8)(a_12:UInt32)(a_13:UInt8)(a_14:Int)(a_15:UInt8)(a_16:UInt32){x:AV}{l:List Int}(hx:Sl 1 (rows l) x)(hl:l.length<1000000):limf env 23 [.agg [a8 a_1,a8 a_2,a32 a_3,a8 a_4,aI a_5,a8 a_6,a32 a_7,a8 a_8,aI a_9,aI a_10,a8 a_11,a32 a_12,a8 a_13,aI a_14,a8 a_15,a32 a_16,x]] =
 some (if ofE (⟨a_1,⟨a_2,a_3,a_4⟩,a_5,⟨⟨⟨a_6,a_7,a_8⟩,a_9⟩,a_10⟩,⟨⟨a_11,a_12,a_13⟩,a_14⟩,⟨a_15,a_16⟩,l⟩:Opn)=0 then .tup [.agg [a8 a_6,a32 a_7,a8 a_8,aI a_9,aI a_10,a8 a_11,a32 a_12,a8 a_13,aI a_14,.fsl 1 (rows l) none],aI 0]
  else .tup [.agg [a8 0,a32 0,a8 0,aI 0,aI 0,a8 0,a32 0,a8 0,aI 0,aNil],aI (ofE (⟨a_1,⟨a_2,a_3,a_4⟩,a_5,⟨⟨⟨a_6,a_7,a_8⟩,a_9⟩,a_10⟩,⟨⟨a_11,a_12,a_13⟩,a_14⟩,⟨a_15,a_16⟩,l⟩:Opn))]):=by
 have h1:=vd a_1 a_2 a_3 a_4 a_5 a_6 a_7 a_8 a_9 a_10 a_11 a_12 a_13 a_14 a_15 a_16 hx (by omega)
 have h3:=p4 hx (by omega) (by omega)
 cases c1:opB (⟨a_1,⟨a_2,a_3,a_4⟩,a_5,⟨⟨⟨a_6,a_7,a_8⟩,a_9⟩,a_10⟩,⟨⟨a_11,a_12,a_13⟩,a_14⟩,⟨a_15,a_16⟩,l⟩:Opn) with
 | false =>
  have e:ofE (⟨a_1,⟨a_2,a_3,a_4⟩,a_5,⟨⟨⟨a_6,a_7,a_8⟩,a_9⟩,a_10⟩,⟨⟨a_11,a_12,a_13⟩,a_14⟩,⟨a_15,a_16⟩,l⟩:Opn)=8:=by simp[ofE,c1]
  refine aC (fn:=Try.f23) (c:=gR) rfl (by kernel_rfl) (by kernel_rfl) (by kernel_rfl) (by kernel_rfl) ?_;refine iB _ _ _ fun g=>?_
  simp[ar,au,ae,af,ab, *,fg,hx.r]
 | true =>
  have h2:=fun {y:AV} (hy:Sl 1 (rows l) y)=>fC a_6 a_7 a_8 a_9 a_10 a_11 a_12 a_13 a_14 hy hl
  by_cases he:l=[]
  ·have e:ofE (⟨a_1,⟨a_2,a_3,a_4⟩,a_5,⟨⟨⟨a_6,a_7,a_8⟩,a_9⟩,a_10⟩,⟨⟨a_11,a_12,a_13⟩,a_14⟩,⟨a_15,a_16⟩,l⟩:Opn)=2:=by
    simp only[ofE,c1,if_true]
    rw[if_neg]
    rintro⟨_,h⟩
    have hr:=gh h
    simp only at hr
    have hn:=dL hr.1
    simp only at hn
    rw[he]at hr
    simp at hr
    omega
   have hrb:runB ⟨⟨⟨⟨a_6,a_7,a_8⟩,a_9⟩,a_10⟩,⟨⟨a_11,a_12,a_13⟩,a_14⟩,l⟩=false:=by
    cases h2:runB ⟨⟨⟨⟨a_6,a_7,a_8⟩,a_9⟩,a_10⟩,⟨⟨a_11,a_12,a_13⟩,a_14⟩,l⟩ with
    | false=>rfl
    | true =>
     have hr:=gh h2
     simp only at hr
     have hn:=dL hr.1
     simp only at hn
     rw[he]at hr
     simp at hr
     omega
   subst he
   have rn:rows ([]:List Int)=[]:=rfl
   rcases hx.BL with ⟨rfl,_⟩ | ⟨c,rfl⟩
   ·have h2':=h2 (y:=aNil) (.inl ⟨rfl,rfl⟩)
    clear h2
    refine aC (fn:=Try.f23) (c:=gR) rfl (by kernel_rfl) (by kernel_rfl) (by kernel_rfl) (by kernel_rfl) ?_;refine iB _ _ _ fun g=>?_
    by_cases c2:a_1=1
    ·subst c2
     simp[ar,au,ae,af,ab, *,fg]
    ·simp[ar,au,ae,af,ab, *,fg]
   ·have h2':=h2 (y := .isl 1 (rows []) (some 0)) (.inr ⟨some 0,rfl,by simp[rows]⟩)
    have h3':limf env 81 [.isl 1 [] c]=some (.fsl 1 [] (some 0)):=h3
    clear h2 h3
    rw[rn]at h1 h2' ⊢
    refine aC (fn:=Try.f23) (c:=gR) rfl (by kernel_rfl) (by kernel_rfl) (by kernel_rfl) (by kernel_rfl) ?_;refine iB _ _ _ fun g=>?_
    by_cases c2:a_1=1
    ·subst c2
     simp[ar,au,ae,af,ab, *,fg]
    ·simp[ar,au,ae,af,ab, *,fg]
  ·have hr:rows l≠[]:=by simpa using he
   obtain⟨c,rfl,hc⟩:=hx.islN hr
   rw[nE 1 c hr]at h3
   have h2':=h2 (Sl.mk 1 (rows l))
   clear h2
   have fl1:=aF l
   by_cases c2:a_1=1
   ·subst c2
    cases c3:runB ⟨⟨⟨⟨a_6,a_7,a_8⟩,a_9⟩,a_10⟩,⟨⟨a_11,a_12,a_13⟩,a_14⟩,l⟩ with
    | false =>
     have e:ofE ⟨1,⟨a_2,a_3,a_4⟩,a_5,⟨⟨⟨a_6,a_7,a_8⟩,a_9⟩,a_10⟩,⟨⟨a_11,a_12,a_13⟩,a_14⟩,⟨a_15,a_16⟩,l⟩=2:=by simp[ofE,c1,c3]
     refine aC (fn:=Try.f23) (c:=gR) rfl (by kernel_rfl) (by kernel_rfl) (by kernel_rfl) (by kernel_rfl) ?_;refine iB _ _ _ fun g=>?_
     simp[ar,au,ae,af,ab, *,fg,hx.r]
    | true =>
     have e:ofE ⟨1,⟨a_2,a_3,a_4⟩,a_5,⟨⟨⟨a_6,a_7,a_8⟩,a_9⟩,a_10⟩,⟨⟨a_11,a_12,a_13⟩,a_14⟩,⟨a_15,a_16⟩,l⟩=0:=by simp[ofE,c1,c3]
     refine aC (fn:=Try.f23) (c:=gR) rfl (by kernel_rfl) (by kernel_rfl) (by kernel_rfl) (by kernel_rfl) ?_;refine iB _ _ _ fun g=>?_
     simp[ar,au,ae,af,ab, *,fg,hx.r]
   ·have e:ofE (⟨a_1,⟨a_2,a_3,a_4⟩,a_5,⟨⟨⟨a_6,a_7,a_8⟩,a_9⟩,a_10⟩,⟨⟨a_11,a_12,a_13⟩,a_14⟩,⟨a_15,a_16⟩,l⟩:Opn)=2:=by simp[ofE,c1,c2]
    refine aC (fn:=Try.f23) (c:=gR) rfl (by kernel_rfl) (by kernel_rfl) (by kernel_rfl) (by kernel_rfl) ?_;refine iB _ _ _ fun g=>?_
    simp[ar,au,ae,af,ab, *,fg,hx.r]
end Go.Proofs.Ytjampffmlnplcaa
