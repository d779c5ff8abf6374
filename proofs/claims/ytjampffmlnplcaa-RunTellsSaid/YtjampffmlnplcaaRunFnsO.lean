/-
  Runs: what the functions answer. No statement of a seat is proved here.
-/
import Derived.Test.YtjampffmlnplcaaRunesFns
set_option linter.unusedVariables false
set_option linter.unusedSimpArgs false
set_option linter.unusedSectionVars false
set_option linter.unnecessarySimpa false
set_option maxRecDepth 100000
namespace Go.Proofs.Ytjampffmlnplcaa
open Go.Ab
attribute [local simp] fK ek iQ own3 iR eo keep thr fL ew eu ky ku dJ List.take_of_length_le
@[simp] theorem aF(l:List Int)(n:Nat):(rows l).all (flat (n+1))=true:=by
 simp[rows,List.all_eq_true,aR]
theorem fC(a_1:UInt8)(a_2:UInt32)(a_3:UInt8)(a_4:Int)(a_5:Int)(a_6:UInt8)(a_7:UInt32)(a_8:UInt8)(a_9:Int){x:AV}{l:List Int}(hx:Sl 1 (rows l) x)(hl:l.length<1000000):limf env 19 [.agg [a8 a_1,a32 a_2,a8 a_3,aI a_4,aI a_5,a8 a_6,a32 a_7,a8 a_8,aI a_9,x]]=some (aI (bad (runB (⟨⟨⟨⟨a_1,a_2,a_3⟩,a_4⟩,a_5⟩,⟨⟨a_6,a_7,a_8⟩,a_9⟩,l⟩:Rn)))):=by
 refine aC (fn:=Try.f19) (c:=mH) rfl (by kernel_rfl) (by kernel_rfl) (by kernel_rfl) (by kernel_rfl) ?_;refine pQ _ _ _ fun g=>?_
 have h1:=p5 hx (by omega)
 have h2:=lJ l
 have hr:((⟨⟨a_6,a_7,a_8⟩,a_9⟩:Idd)=th)=((decide (a_6=0)&&decide (a_7=0)&&decide (a_8=0)&&decide (a_9=0))=true):=by simp[th,and_assoc]
 unfold runB
 simp only[hr]
 cases hz:(decide (a_6=0)&&decide (a_7=0)&&decide (a_8=0)&&decide (a_9=0)) with
 | true =>
  simp[ar,au,ae,af,ab, *,kB,hx.r,eqA,eqFs]
  repeat' ((first | refine pH (fun h=>?_) (fun h=>?_) | refine lX (fun h=>?_) (fun h=>?_) | refine lY (fun h=>?_) (fun h=>?_) | refine lV (fun h=>?_) (fun h=>?_) | refine lW (fun h=>?_) (fun h=>?_))<;>(try simp only[decide_eq_true_eq,decide_eq_false_iff_not,Bool.not_eq_true',Bool.not_eq_false',Bool.and_eq_true,Bool.or_eq_true]at h)<;>(try simp[ar,au,ae,af,ab, *,hx.r]))
 | false =>
  simp[ar,au,ae,af,ab, *,kB,hx.r,eqA,eqFs]
  repeat' ((first | refine pH (fun h=>?_) (fun h=>?_) | refine lX (fun h=>?_) (fun h=>?_) | refine lY (fun h=>?_) (fun h=>?_) | refine lV (fun h=>?_) (fun h=>?_) | refine lW (fun h=>?_) (fun h=>?_))<;>(try simp only[decide_eq_true_eq,decide_eq_false_iff_not,Bool.not_eq_true',Bool.not_eq_false',Bool.and_eq_true,Bool.or_eq_true]at h)<;>(try simp[ar,au,ae,af,ab, *,hx.r]))
theorem lG(a_1:UInt8)(a_2:UInt32)(a_3:UInt8)(a_4:Int)(a_5:Int)(a_6:UInt8)(a_7:UInt32)(a_8:UInt8)(a_9:Int)(b_1:UInt8)(b_2:UInt32)(b_3:UInt8)(b_4:Int)(b_5:Int)(b_6:UInt8)(b_7:UInt32)(b_8:UInt8)(b_9:Int){x y:AV}{l m:List Int}(hx:Sl 1 (rows l) x)(hy:Sl 1 (rows m) y)(hl:l.length<1000000):limf env 18 [.agg [a8 a_1,a32 a_2,a8 a_3,aI a_4,aI a_5,a8 a_6,a32 a_7,a8 a_8,aI a_9,x],.agg [a8 b_1,a32 b_2,a8 b_3,aI b_4,aI b_5,a8 b_6,a32 b_7,a8 b_8,aI b_9,y]]=some (aB (decide ((⟨⟨⟨⟨a_1,a_2,a_3⟩,a_4⟩,a_5⟩,⟨⟨a_6,a_7,a_8⟩,a_9⟩,l⟩:Rn)=(⟨⟨⟨⟨b_1,b_2,b_3⟩,b_4⟩,b_5⟩,⟨⟨b_6,b_7,b_8⟩,b_9⟩,m⟩:Rn)))):=by
 refine aC (fn:=Try.f18) (c:=nJ) rfl (by kernel_rfl) (by kernel_rfl) (by kernel_rfl) (by kernel_rfl) ?_;refine qQ _ _ _ _ fun g=>?_
 have h1:=u9 hx hy (by omega)
 have e:decide ((⟨⟨⟨⟨a_1,a_2,a_3⟩,a_4⟩,a_5⟩,⟨⟨a_6,a_7,a_8⟩,a_9⟩,l⟩:Rn)=(⟨⟨⟨⟨b_1,b_2,b_3⟩,b_4⟩,b_5⟩,⟨⟨b_6,b_7,b_8⟩,b_9⟩,m⟩:Rn))=((decide (a_1=b_1)&&decide (a_2=b_2)&&decide (a_3=b_3)&&decide (a_4=b_4)&&decide (a_5=b_5))&&((decide (a_6=b_6)&&decide (a_7=b_7)&&decide (a_8=b_8)&&decide (a_9=b_9))&&decide (l=m))):=by
  simp[and_assoc,Bool.and_assoc]
 rw[e]
 cases hA:(decide (a_1=b_1)&&decide (a_2=b_2)&&decide (a_3=b_3)&&decide (a_4=b_4)&&decide (a_5=b_5)) with
 | false=>simp[ar,au,ae,af,ab, *,jB,hx.r,hy.r,eqA,eqFs]
 | true =>
  cases hB:(decide (a_6=b_6)&&decide (a_7=b_7)&&decide (a_8=b_8)&&decide (a_9=b_9)) with
  | false=>simp[ar,au,ae,af,ab, *,jB,hx.r,hy.r,eqA,eqFs]
  | true=>simp[ar,au,ae,af,ab, *,jB,hx.r,hy.r,eqA,eqFs]
theorem u4(a_1:UInt8)(a_2:UInt32)(a_3:UInt8)(a_4:Int)(a_5:Int)(a_6:UInt8)(a_7:UInt32)(a_8:UInt8)(a_9:Int)(c:Option Nat){l:List Int}(he:0<l.length)(hl:l.length<1000000):limf env 75 [.agg [a8 a_1,a32 a_2,a8 a_3,aI a_4,aI a_5,a8 a_6,a32 a_7,a8 a_8,aI a_9,.isl 1 (rows l) c]]=some (.agg [a8 a_1,a32 a_2,a8 a_3,aI a_4,aI a_5,a8 a_6,a32 a_7,a8 a_8,aI a_9,.fsl 1 (rows l) none]):=by
 refine aC (fn:=Try.f75) (c:=dF) rfl (by kernel_rfl) (by kernel_rfl) (by kernel_rfl) (by kernel_rfl) ?_;refine gp _ _ _ fun g=>?_
 have h1:=tz c he (by omega)
 simp[ar,au,ae,af,ab, *,dI]
def cutE(s:Spn)(n:Int):Int:=if fm s then (if n<1∨s.many≤n then 2 else 0) else 8
theorem zr(a_1:UInt8)(a_2:UInt32)(a_3:UInt8)(a_4:Int)(a_5:Int)(n:Int):limf env 73 [.agg [a8 a_1,a32 a_2,a8 a_3,aI a_4,aI a_5],aI n]=some (if cutE (⟨⟨⟨a_1,a_2,a_3⟩,a_4⟩,a_5⟩:Spn) n=0 then .tup [.agg [a8 a_1,a32 a_2,a8 a_3,aI a_4,aI n],.agg [a8 a_1,a32 a_2,a8 a_3,aI (a_4+n),aI (a_5 - n)],aI 0]
 else .tup [.agg [a8 0,a32 0,a8 0,aI 0,aI 0],.agg [a8 0,a32 0,a8 0,aI 0,aI 0],aI (cutE (⟨⟨⟨a_1,a_2,a_3⟩,a_4⟩,a_5⟩:Spn) n)]):=by
 refine aC (fn:=Try.f73) (c:=oK) rfl (by kernel_rfl) (by kernel_rfl) (by kernel_rfl) (by kernel_rfl) ?_;refine tu _ _ _ _ fun g=>?_
 cases hb:fm (⟨⟨⟨a_1,a_2,a_3⟩,a_4⟩,a_5⟩:Spn) with
 | false =>
  have e:cutE (⟨⟨⟨a_1,a_2,a_3⟩,a_4⟩,a_5⟩:Spn) n=8:=by simp[cutE,hb]
  have e2:atE (⟨⟨⟨a_1,a_2,a_3⟩,a_4⟩,a_5⟩:Spn) n=8:=by simp[atE,hb]
  simp[ar,au,ae,af,ab, *,gE]
 | true =>
  have hn:=dL hb
  simp only at hn
  by_cases h1:n<0
  ·have e:cutE (⟨⟨⟨a_1,a_2,a_3⟩,a_4⟩,a_5⟩:Spn) n=2:=by simp[cutE,hb];omega
   have e2:atE (⟨⟨⟨a_1,a_2,a_3⟩,a_4⟩,a_5⟩:Spn) n=2:=by simp[atE,hb,h1]
   simp[ar,au,ae,af,ab, *,gE]
  ·by_cases h2:a_5≤n
   ·have e:cutE (⟨⟨⟨a_1,a_2,a_3⟩,a_4⟩,a_5⟩:Spn) n=2:=by simp[cutE,hb];omega
    have e2:atE (⟨⟨⟨a_1,a_2,a_3⟩,a_4⟩,a_5⟩:Spn) n=2:=by simp[atE,hb,h2]
    simp[ar,au,ae,af,ab, *,gE]
   ·have e2:atE (⟨⟨⟨a_1,a_2,a_3⟩,a_4⟩,a_5⟩:Spn) n=0:=by simp[atE,hb];omega
    by_cases h3:n=0
    ·subst h3
     have e:cutE (⟨⟨⟨a_1,a_2,a_3⟩,a_4⟩,a_5⟩:Spn) 0=2:=by simp[cutE,hb]
     simp[ar,au,ae,af,ab, *,gE]
    ·have e:cutE (⟨⟨⟨a_1,a_2,a_3⟩,a_4⟩,a_5⟩:Spn) n=0:=by simp[cutE,hb];omega
     have w1:=IntWalk.i64_in (a_5 - n) (by omega)
     simp[ar,au,ae,af,ab, *,gE]
def gu(r:Rn)(n:Int):Int:=if runB r then (if n<1∨r.s.many≤n then 2 else 0) else 8
theorem gh{r:Rn}(h:runB r=true):fm r.s=true∧(r.l.length:Int)=r.s.many:=by
 simp[runB]at h;exact⟨h.1,h.2.2.1⟩
theorem sK(a_1:UInt8)(a_2:UInt32)(a_3:UInt8)(a_4:Int)(a_5:Int)(a_6:UInt8)(a_7:UInt32)(a_8:UInt8)(a_9:Int)(n:Int){x:AV}{l:List Int}(hx:Sl 1 (rows l) x)(hl:l.length<1000000):limf env 17 [.agg [a8 a_1,a32 a_2,a8 a_3,aI a_4,aI a_5,a8 a_6,a32 a_7,a8 a_8,aI a_9,x],aI n] =
 some (if gu (⟨⟨⟨⟨a_1,a_2,a_3⟩,a_4⟩,a_5⟩,⟨⟨a_6,a_7,a_8⟩,a_9⟩,l⟩:Rn) n=0 then .tup [.agg [a8 a_1,a32 a_2,a8 a_3,aI a_4,aI n,a8 a_6,a32 a_7,a8 a_8,aI a_9,.fsl 1 (rows (l.take n.toNat)) none],.agg [a8 a_1,a32 a_2,a8 a_3,aI (a_4+n),aI (a_5 - n),a8 a_1,a32 a_2,a8 a_3,aI (a_4+(n - 1)),.fsl 1 (rows (l.drop n.toNat)) none],aI 0]
 else .tup [.agg [a8 0,a32 0,a8 0,aI 0,aI 0,a8 0,a32 0,a8 0,aI 0,aNil],.agg [a8 0,a32 0,a8 0,aI 0,aI 0,a8 0,a32 0,a8 0,aI 0,aNil],aI (gu (⟨⟨⟨⟨a_1,a_2,a_3⟩,a_4⟩,a_5⟩,⟨⟨a_6,a_7,a_8⟩,a_9⟩,l⟩:Rn) n)]):=by
 refine aC (fn:=Try.f17) (c:=oJ) rfl (by kernel_rfl) (by kernel_rfl) (by kernel_rfl) (by kernel_rfl) ?_;refine tq _ _ _ _ fun g=>?_
 have h1:=fC a_1 a_2 a_3 a_4 a_5 a_6 a_7 a_8 a_9 hx hl
 have h2:=zr a_1 a_2 a_3 a_4 a_5 n
 cases hb:runB (⟨⟨⟨⟨a_1,a_2,a_3⟩,a_4⟩,a_5⟩,⟨⟨a_6,a_7,a_8⟩,a_9⟩,l⟩:Rn) with
 | false =>
  have e:gu (⟨⟨⟨⟨a_1,a_2,a_3⟩,a_4⟩,a_5⟩,⟨⟨a_6,a_7,a_8⟩,a_9⟩,l⟩:Rn) n=8:=by simp[gu,hb]
  simp[ar,au,ae,af,ab, *,kT,hx.r]
 | true =>
  have hr:=gh hb
  simp only at hr
  obtain⟨hsp,hlen⟩:=hr
  subst hlen
  have hr:fm ⟨⟨⟨a_1,a_2,a_3⟩,a_4⟩,(l.length:Int)⟩=true∧True:=⟨hsp,trivial⟩
  have hn:=dL hr.1
  simp only at hn
  by_cases h3:n<1∨(l.length:Int)≤n
  ·have e:gu ⟨⟨⟨⟨a_1,a_2,a_3⟩,a_4⟩,(l.length:Int)⟩,⟨⟨a_6,a_7,a_8⟩,a_9⟩,l⟩ n=2:=by simp[gu,hb];omega
   have e2:cutE ⟨⟨⟨a_1,a_2,a_3⟩,a_4⟩,(l.length:Int)⟩ n=2:=by simp[cutE,hr.1];omega
   simp[ar,au,ae,af,ab, *,kT,hx.r]
  ·have e:gu ⟨⟨⟨⟨a_1,a_2,a_3⟩,a_4⟩,(l.length:Int)⟩,⟨⟨a_6,a_7,a_8⟩,a_9⟩,l⟩ n=0:=by simp[gu,hb];omega
   have e2:cutE ⟨⟨⟨a_1,a_2,a_3⟩,a_4⟩,(l.length:Int)⟩ n=0:=by simp[cutE,hr.1];omega
   have w1:=IntWalk.i64_in (n - 1) (by omega)
   have s1:fm ⟨⟨⟨a_1,a_2,a_3⟩,a_4⟩,n⟩=true:=by
    have hid:=xc hr.1
    simp only at hid
    simp only[fm,hid,Bool.true_and,Bool.and_eq_true,decide_eq_true_eq]
    omega
   have e3:atE ⟨⟨⟨a_1,a_2,a_3⟩,a_4⟩,n⟩ (n - 1)=0:=by
    unfold atE
    rw[if_pos s1,if_neg]
    simp only
    omega
   obtain⟨c,rfl,hc⟩:=hx.islN (fD (by omega))
   have lt:((l.take n.toNat).length:Int)=n:=by rw[List.length_take];omega
   have ld:((l.drop n.toNat).length:Int)=(l.length:Int) - n:=by rw[List.length_drop];omega
   have nt:rows (l.take n.toNat)≠[]:=fD (by omega)
   have nd:rows (l.drop n.toNat)≠[]:=fD (by omega)
   have p1:=fun c'=>u4 a_1 a_2 a_3 a_4 n a_6 a_7 a_8 a_9 c' (l:=l.take n.toNat) (by omega) (by omega)
   have p2:=fun c'=>u4 a_1 a_2 a_3 (a_4+n) ((l.length:Int) - n) a_1 a_2 a_3 (a_4+(n - 1)) c' (l:=l.drop n.toNat) (by omega) (by omega)
   have g0:0≤n:=by omega
   have g1:n≤l.length:=by omega
   have g2:n.toNat≤l.length:=by omega
   clear hr
   clear h3 lt ld nt nd
   simp[ar,au,ae,af,ab, *,kT,hx.r]
theorem DC(a_1:UInt8)(a_2:UInt32)(a_3:UInt8)(a_4:Int)(a_5:Int)(a_6:UInt8)(a_7:UInt32)(a_8:UInt8)(a_9:Int)(b_1:UInt8)(b_2:UInt32)(b_3:UInt8)(b_4:Int)(b_5:Int)(b_6:UInt8)(b_7:UInt32)(b_8:UInt8)(b_9:Int){x y:AV}{l m:List Int}(hx:Sl 1 (rows l) x)(hy:Sl 1 (rows m) y)(hl:l.length<1000000)(hm:m.length<1000000)(hl0:0<l.length)(hm0:0<m.length):limf env 72 [.isl 10 [.agg [a8 a_1,a32 a_2,a8 a_3,aI a_4,aI a_5,a8 a_6,a32 a_7,a8 a_8,aI a_9,x],.agg [a8 b_1,a32 b_2,a8 b_3,aI b_4,aI b_5,a8 b_6,a32 b_7,a8 b_8,aI b_9,y]] (some 2)]=some (.fsl 1 (rows (l++m)) none):=by
 refine aC (fn:=Try.f72) (c:=mu) rfl (by kernel_rfl) (by kernel_rfl) (by kernel_rfl) (by kernel_rfl) ?_;refine tp _ _ _ fun g=>?_
 have hl1:l≠[]:=by rintro rfl;simp at hl0
 have hm1:m≠[]:=by rintro rfl;simp at hm0
 have w1:IntKind.i64.wrap 1=1:=rfl
 have b1:l.length≤35184372088832:=by omega
 have b2:l.length+m.length≤35184372088832:=by omega
 have b3:l.length * 4≤140737488355328:=by omega
 have b4:(l.length+m.length) * 4≤140737488355328:=by omega
 simp[ar,au,ae,af,ab, *,oN]
 refine jY _ _ _ _ _ _ fun g=>?_
 simp[ar,au,ae,af,ab, *,ib,hx.r,hx.jo]
 refine jY _ _ _ _ _ _ fun g=>?_
 simp[ar,au,ae,af,ab, *,ib,hy.r,hy.jo]
 refine jY _ _ _ _ _ _ fun g=>?_
 simp[ar,au,ae,af,ab, *,ib]
theorem xh(a_1:UInt8)(a_2:UInt32)(a_3:UInt8)(a_4:Int)(a_5:Int)(a_6:UInt8)(a_7:UInt32)(a_8:UInt8)(a_9:Int)(n:Int){x:AV}{l:List Int}(hx:Sl 1 (rows l) x)(hl:l.length<1000000)(h : ¬(runB (⟨⟨⟨⟨a_1,a_2,a_3⟩,a_4⟩,a_5⟩,⟨⟨a_6,a_7,a_8⟩,a_9⟩,l⟩:Rn)=true∧0≤n∧n<a_5)):limf env 20 [.agg [a8 a_1,a32 a_2,a8 a_3,aI a_4,aI a_5,a8 a_6,a32 a_7,a8 a_8,aI a_9,x],aI n] =
 some (.tup [.agg [a8 0,a32 0,a8 0,aI 0],.agg [a8 0,a32 0,a8 0,aI 0],.v (.int .i32 0),aI (if runB (⟨⟨⟨⟨a_1,a_2,a_3⟩,a_4⟩,a_5⟩,⟨⟨a_6,a_7,a_8⟩,a_9⟩,l⟩:Rn) then 2 else 8)]):=by
 refine aC (fn:=Try.f20) (c:=nL) rfl (by kernel_rfl) (by kernel_rfl) (by kernel_rfl) (by kernel_rfl) ?_;refine pR _ _ _ _ fun g=>?_
 have h1:=fC a_1 a_2 a_3 a_4 a_5 a_6 a_7 a_8 a_9 hx hl
 cases hb:runB (⟨⟨⟨⟨a_1,a_2,a_3⟩,a_4⟩,a_5⟩,⟨⟨a_6,a_7,a_8⟩,a_9⟩,l⟩:Rn) with
 | false=>simp[ar,au,ae,af,ab, *,kC,hx.r]
 | true =>
  have hr:=gh hb
  simp only at hr
  have e3:atE (⟨⟨⟨a_1,a_2,a_3⟩,a_4⟩,a_5⟩:Spn) n=2:=by
   unfold atE
   rw[if_pos hr.1,if_pos]
   simp only
   by_cases c1:n<0
   ·exact .inl c1
   ·exact .inr (Int.not_lt.1 fun c2=>h ⟨hb,by omega,c2⟩)
  have e4:=zt a_1 a_2 a_3 a_4 a_5 n
  rw[if_neg (by rw[e3];decide)]at e4
  simp[ar,au,ae,af,ab, *,kC,hx.r]
theorem zn(a_1:UInt8)(a_2:UInt32)(a_3:UInt8)(a_4:Int)(a_5:Int)(a_6:UInt8)(a_7:UInt32)(a_8:UInt8)(a_9:Int)(n:Int){x:AV}{l:List Int}(hx:Sl 1 (rows l) x)(hl:l.length<1000000)(hb:runB (⟨⟨⟨⟨a_1,a_2,a_3⟩,a_4⟩,a_5⟩,⟨⟨a_6,a_7,a_8⟩,a_9⟩,l⟩:Rn)=true)(h0:0≤n)(h1:n<a_5):limf env 20 [.agg [a8 a_1,a32 a_2,a8 a_3,aI a_4,aI a_5,a8 a_6,a32 a_7,a8 a_8,aI a_9,x],aI n] =
 some (.tup [.agg [a8 a_1,a32 a_2,a8 a_3,aI (a_4+n)],(if n=0 then .agg [a8 a_6,a32 a_7,a8 a_8,aI a_9] else .agg [a8 a_1,a32 a_2,a8 a_3,aI (a_4+(n - 1))]),aR (l[n.toNat]?.getD 0),aI 0]):=by
 refine aC (fn:=Try.f20) (c:=nL) rfl (by kernel_rfl) (by kernel_rfl) (by kernel_rfl) (by kernel_rfl) ?_;refine pR _ _ _ _ fun g=>?_
 have h2:=fC a_1 a_2 a_3 a_4 a_5 a_6 a_7 a_8 a_9 hx hl
 have hr:=gh hb
 simp only at hr
 obtain⟨hsp,hlen⟩:=hr
 have e3:atE (⟨⟨⟨a_1,a_2,a_3⟩,a_4⟩,a_5⟩:Spn) n=0:=by
  unfold atE
  rw[if_pos hsp,if_neg]
  simp only
  omega
 have e4:=zt a_1 a_2 a_3 a_4 a_5 n
 rw[if_pos e3]at e4
 obtain⟨c,rfl,hc⟩:=hx.islN (fD (by omega))
 have hg:l[n.toNat]?=some (l[n.toNat]'(by omega)):=List.getElem?_eq_getElem _
 have hlt:n<l.length:=by omega
 generalize l[n.toNat]'(by omega)=v at *
 have gr:(rows l)[n.toNat]?=some (aR v):=by simp[rows,hg]
 by_cases hz:n=0
 ·subst hz
  have hg0:l[0]?=some v:=hg
  simp[ar,au,ae,af,ab, *,kC,hx.idx]
 ·have e5:atE (⟨⟨⟨a_1,a_2,a_3⟩,a_4⟩,a_5⟩:Spn) (n - 1)=0:=by
   unfold atE
   rw[if_pos hsp,if_neg]
   simp only
   omega
  have e6:=zt a_1 a_2 a_3 a_4 a_5 (n - 1)
  rw[if_pos e5]at e6
  have hp:0<n:=by omega
  have hsn:=dL hsp
  simp only at hsn
  have w1:=IntWalk.i64_in (n - 1) (by omega)
  simp[ar,au,ae,af,ab, *,kC,hx.idx]
def ya(a b:Rn):Rn:=⟨⟨a.s.f,a.s.many+b.s.many⟩,a.a,a.l++b.l⟩
def pr(a b:Rn):Bool:=runB (ya a b)&&(decide (b.s.f=rP a.s.f a.s.many)&&decide (b.a=rP a.s.f (a.s.many - 1)))
def fq(a b:Rn):Int:=if runB a&&runB b then (if pr a b then 0 else 2) else 8
theorem u7(a_1:UInt8)(a_2:UInt32)(a_3:UInt8)(a_4:Int)(a_5:Int)(a_6:UInt8)(a_7:UInt32)(a_8:UInt8)(a_9:Int)(b_1:UInt8)(b_2:UInt32)(b_3:UInt8)(b_4:Int)(b_5:Int)(b_6:UInt8)(b_7:UInt32)(b_8:UInt8)(b_9:Int){x y:AV}{l m:List Int}(hx:Sl 1 (rows l) x)(hy:Sl 1 (rows m) y)(hl:l.length<10000)(hm:m.length<10000):limf env 16 [.agg [a8 a_1,a32 a_2,a8 a_3,aI a_4,aI a_5,a8 a_6,a32 a_7,a8 a_8,aI a_9,x],.agg [a8 b_1,a32 b_2,a8 b_3,aI b_4,aI b_5,a8 b_6,a32 b_7,a8 b_8,aI b_9,y]] =
 some (if fq (⟨⟨⟨⟨a_1,a_2,a_3⟩,a_4⟩,a_5⟩,⟨⟨a_6,a_7,a_8⟩,a_9⟩,l⟩:Rn) (⟨⟨⟨⟨b_1,b_2,b_3⟩,b_4⟩,b_5⟩,⟨⟨b_6,b_7,b_8⟩,b_9⟩,m⟩:Rn)=0 then .tup [.agg [a8 a_1,a32 a_2,a8 a_3,aI a_4,aI (a_5+b_5),a8 a_6,a32 a_7,a8 a_8,aI a_9,.fsl 1 (rows (l++m)) none],aI 0]
  else .tup [.agg [a8 0,a32 0,a8 0,aI 0,aI 0,a8 0,a32 0,a8 0,aI 0,aNil],aI (fq (⟨⟨⟨⟨a_1,a_2,a_3⟩,a_4⟩,a_5⟩,⟨⟨a_6,a_7,a_8⟩,a_9⟩,l⟩:Rn) (⟨⟨⟨⟨b_1,b_2,b_3⟩,b_4⟩,b_5⟩,⟨⟨b_6,b_7,b_8⟩,b_9⟩,m⟩:Rn))]):=by
 refine aC (fn:=Try.f16) (c:=nK) rfl (by kernel_rfl) (by kernel_rfl) (by kernel_rfl) (by kernel_rfl) ?_;refine qR _ _ _ _ fun g=>?_
 have h1:=fC a_1 a_2 a_3 a_4 a_5 a_6 a_7 a_8 a_9 hx (by omega)
 have h2:=fC b_1 b_2 b_3 b_4 b_5 b_6 b_7 b_8 b_9 hy (by omega)
 cases ha:runB (⟨⟨⟨⟨a_1,a_2,a_3⟩,a_4⟩,a_5⟩,⟨⟨a_6,a_7,a_8⟩,a_9⟩,l⟩:Rn) with
 | false =>
  have e:fq (⟨⟨⟨⟨a_1,a_2,a_3⟩,a_4⟩,a_5⟩,⟨⟨a_6,a_7,a_8⟩,a_9⟩,l⟩:Rn) (⟨⟨⟨⟨b_1,b_2,b_3⟩,b_4⟩,b_5⟩,⟨⟨b_6,b_7,b_8⟩,b_9⟩,m⟩:Rn)=8:=by simp[fq,ha]
  cases hb:runB (⟨⟨⟨⟨b_1,b_2,b_3⟩,b_4⟩,b_5⟩,⟨⟨b_6,b_7,b_8⟩,b_9⟩,m⟩:Rn)<;>simp[ar,au,ae,af,ab, *,fG,hx.r,hy.r]
 | true =>
 cases hb:runB (⟨⟨⟨⟨b_1,b_2,b_3⟩,b_4⟩,b_5⟩,⟨⟨b_6,b_7,b_8⟩,b_9⟩,m⟩:Rn) with
 | false =>
  have e:fq (⟨⟨⟨⟨a_1,a_2,a_3⟩,a_4⟩,a_5⟩,⟨⟨a_6,a_7,a_8⟩,a_9⟩,l⟩:Rn) (⟨⟨⟨⟨b_1,b_2,b_3⟩,b_4⟩,b_5⟩,⟨⟨b_6,b_7,b_8⟩,b_9⟩,m⟩:Rn)=8:=by simp[fq,hb]
  simp[ar,au,ae,af,ab, *,fG,hx.r,hy.r]
 | true =>
 have ra:=gh ha
 have rb:=gh hb
 simp only at ra rb
 have na:=dL ra.1
 have nb:=dL rb.1
 simp only at na nb
 have w1:=IntWalk.i64_in (a_5+b_5) (by omega)
 have h3:=DC a_1 a_2 a_3 a_4 a_5 a_6 a_7 a_8 a_9 b_1 b_2 b_3 b_4 b_5 b_6 b_7 b_8 b_9 hx hy (by omega) (by omega) (by omega) (by omega)
 have sj:Sl 1 (rows (l++m)) (.isl 1 (rows (l++m)) none):=Sl.mk _ _
 have h4:=sK a_1 a_2 a_3 a_4 (a_5+b_5) a_6 a_7 a_8 a_9 a_5 sj (by simp;omega)
 have t1:(l++m).take a_5.toNat=l:=by
  rw[show a_5.toNat=l.length by omega,List.take_left']
  rfl
 have t2:(l++m).drop a_5.toNat=m:=by
  rw[show a_5.toNat=l.length by omega,List.drop_left']
  rfl
 rw[t1,t2,show a_5+b_5 - a_5=b_5 by omega]at h4
 have h5:=lG a_1 a_2 a_3 a_4 a_5 a_6 a_7 a_8 a_9 a_1 a_2 a_3 a_4 a_5 a_6 a_7 a_8 a_9 (x := .isl 1 (rows l) none) (Sl.mk _ _) hx (by omega)
 have h6:=lG a_1 a_2 a_3 (a_4+a_5) b_5 a_1 a_2 a_3 (a_4+(a_5 - 1)) b_1 b_2 b_3 b_4 b_5 b_6 b_7 b_8 b_9 (x := .isl 1 (rows m) none) (Sl.mk _ _) hy (by omega)
 have p1:0<l.length:=by omega
 have p2:0<m.length:=by omega
 have fl1:=aF l
 have fl2:=aF m
 have fl3:=aF (l++m)
 cases hj:runB (ya (⟨⟨⟨⟨a_1,a_2,a_3⟩,a_4⟩,a_5⟩,⟨⟨a_6,a_7,a_8⟩,a_9⟩,l⟩:Rn) (⟨⟨⟨⟨b_1,b_2,b_3⟩,b_4⟩,b_5⟩,⟨⟨b_6,b_7,b_8⟩,b_9⟩,m⟩:Rn)) with
 | false =>
  have e:fq (⟨⟨⟨⟨a_1,a_2,a_3⟩,a_4⟩,a_5⟩,⟨⟨a_6,a_7,a_8⟩,a_9⟩,l⟩:Rn) (⟨⟨⟨⟨b_1,b_2,b_3⟩,b_4⟩,b_5⟩,⟨⟨b_6,b_7,b_8⟩,b_9⟩,m⟩:Rn)=2:=by simp[fq,pr,ha,hb,hj]
  have e2:gu ⟨⟨⟨⟨a_1,a_2,a_3⟩,a_4⟩,a_5+b_5⟩,⟨⟨a_6,a_7,a_8⟩,a_9⟩,l++m⟩ a_5=8:=by
   unfold gu
   rw[if_neg]
   intro h
   have h':runB (ya (⟨⟨⟨⟨a_1,a_2,a_3⟩,a_4⟩,a_5⟩,⟨⟨a_6,a_7,a_8⟩,a_9⟩,l⟩:Rn) (⟨⟨⟨⟨b_1,b_2,b_3⟩,b_4⟩,b_5⟩,⟨⟨b_6,b_7,b_8⟩,b_9⟩,m⟩:Rn))=true:=h
   rw[hj]at h'
   cases h'
  simp[ar,au,ae,af,ab, *,fG,hx.r,hy.r]
 | true =>
  have e2:gu ⟨⟨⟨⟨a_1,a_2,a_3⟩,a_4⟩,a_5+b_5⟩,⟨⟨a_6,a_7,a_8⟩,a_9⟩,l++m⟩ a_5=0:=by
   unfold gu
   rw[if_pos (show runB ⟨⟨⟨⟨a_1,a_2,a_3⟩,a_4⟩,a_5+b_5⟩,⟨⟨a_6,a_7,a_8⟩,a_9⟩,l++m⟩=true from hj),if_neg]
   simp only
   omega
  have ej:pr (⟨⟨⟨⟨a_1,a_2,a_3⟩,a_4⟩,a_5⟩,⟨⟨a_6,a_7,a_8⟩,a_9⟩,l⟩:Rn) (⟨⟨⟨⟨b_1,b_2,b_3⟩,b_4⟩,b_5⟩,⟨⟨b_6,b_7,b_8⟩,b_9⟩,m⟩:Rn)=decide ((⟨⟨⟨⟨a_1,a_2,a_3⟩,a_4+a_5⟩,b_5⟩,⟨⟨a_1,a_2,a_3⟩,a_4+(a_5 - 1)⟩,m⟩:Rn)=(⟨⟨⟨⟨b_1,b_2,b_3⟩,b_4⟩,b_5⟩,⟨⟨b_6,b_7,b_8⟩,b_9⟩,m⟩:Rn)):=by
   unfold pr
   rw[hj,Bool.true_and,←Bool.decide_and]
   congr 1
   simp only[rP,Rn.mk.injEq,Spn.mk.injEq,and_true,eq_iff_iff]
   exact⟨fun h=>⟨h.1.symm,h.2.symm⟩,fun h=>⟨h.1.symm,h.2.symm⟩⟩
  cases hq:pr (⟨⟨⟨⟨a_1,a_2,a_3⟩,a_4⟩,a_5⟩,⟨⟨a_6,a_7,a_8⟩,a_9⟩,l⟩:Rn) (⟨⟨⟨⟨b_1,b_2,b_3⟩,b_4⟩,b_5⟩,⟨⟨b_6,b_7,b_8⟩,b_9⟩,m⟩:Rn) with
  | false =>
   have e:fq (⟨⟨⟨⟨a_1,a_2,a_3⟩,a_4⟩,a_5⟩,⟨⟨a_6,a_7,a_8⟩,a_9⟩,l⟩:Rn) (⟨⟨⟨⟨b_1,b_2,b_3⟩,b_4⟩,b_5⟩,⟨⟨b_6,b_7,b_8⟩,b_9⟩,m⟩:Rn)=2:=by simp[fq,ha,hb,hq]
   rw[hq]at ej
   rw[←ej]at h6
   clear ej
   simp[ar,au,ae,af,ab, *,fG,hx.r,hy.r]
  | true =>
   have e:fq (⟨⟨⟨⟨a_1,a_2,a_3⟩,a_4⟩,a_5⟩,⟨⟨a_6,a_7,a_8⟩,a_9⟩,l⟩:Rn) (⟨⟨⟨⟨b_1,b_2,b_3⟩,b_4⟩,b_5⟩,⟨⟨b_6,b_7,b_8⟩,b_9⟩,m⟩:Rn)=0:=by simp[fq,ha,hb,hq]
   rw[hq]at ej
   rw[←ej]at h6
   clear ej
   simp[ar,au,ae,af,ab, *,fG,hx.r,hy.r]
end Go.Proofs.Ytjampffmlnplcaa
