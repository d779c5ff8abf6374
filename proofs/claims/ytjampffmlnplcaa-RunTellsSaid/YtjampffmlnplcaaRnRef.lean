/-
  The document's runs: what the functions answer. No statement of a seat is proved here.
-/
import Derived.Test.YtjampffmlnplcaaRunFnsO
import Derived.Test.YtjampffmlnplcaaRefFns
set_option linter.unusedVariables false
set_option linter.unusedSimpArgs false
set_option linter.unusedSectionVars false
set_option linter.unnecessarySimpa false
set_option maxRecDepth 100000
namespace Go.Proofs.Ytjampffmlnplcaa
open Go.Ab
attribute [local simp] fK ek iQ own3 iR eo keep thr fL ew eu ky ku dJ List.take_of_length_le
def fR(l:List Int):Prop :=∀a∈l, -2147483648≤a∧a≤2147483647
theorem uC(i:Idd):decide (i=th)=eQ i:=by
 rw[Bool.eq_iff_iff,decide_eq_true_eq,uB]
@[simp] theorem Bk(b_1:UInt8)(b_2:UInt32)(b_3:UInt8)(b_4:Int):limf env 124 [.agg [a8 b_1,a32 b_2,a8 b_3,aI b_4]]=some (aB (eQ (⟨⟨b_1,b_2,b_3⟩,b_4⟩:Idd))):=by
 refine aC (fn:=Try.f124) (c:=fa) rfl (by kernel_rfl) (by kernel_rfl) (by kernel_rfl) (by kernel_rfl) ?_;refine iU _ _ _ fun g=>?_
 simp[ar,au,ae,af,ab, *,fh,eQ,eqA,eqFs]
section
variable(a_1:UInt8)(a_2:UInt32)(a_3:UInt8)(a_4:Int)(a_5:Int)(a_6:UInt8)(a_7:UInt32)(a_8:UInt8)(a_9:Int){x:AV}{l:List Int}(hx:Sl 1 (rows l) x)(hl:l.length<1000000)(hR:fR l)
include hx hl
theorem jc(hR:fR l):limf env 83 [.agg [a8 a_1,a32 a_2,a8 a_3,aI a_4,aI a_5,a8 a_6,a32 a_7,a8 a_8,aI a_9,x]]=some (aB (runB (⟨⟨⟨⟨a_1,a_2,a_3⟩,a_4⟩,a_5⟩,⟨⟨a_6,a_7,a_8⟩,a_9⟩,l⟩:Rn))):=by
 have h3:=p6 hx (by omega) hR
 have h4:=lJ l
 unfold runB
 simp only[uC]
 refine aC (fn:=Try.f83) (c:=fu) rfl (by kernel_rfl) (by kernel_rfl) (by kernel_rfl) (by kernel_rfl) ?_;refine jH _ _ _ fun g=>?_
 cases c1:fm (⟨⟨⟨a_1,a_2,a_3⟩,a_4⟩,a_5⟩:Spn) with
 | false=>simp[ar,au,ae,af,ab, *,bN,hx.r]
 | true =>
  by_cases c2:(l.length:Int)=a_5
  ·subst c2
   cases c3:rowB l with
   | false =>
    have c3' : ¬rowE l=0:=by rw[h4,c3];decide
    clear h4
    simp[ar,au,ae,af,ab, *,bN,hx.r]
   | true =>
    have c3':rowE l=0:=h4.2 c3
    clear h4
    cases c4:eQ (⟨⟨a_6,a_7,a_8⟩,a_9⟩:Idd) with
    | true=>simp[ar,au,ae,af,ab, *,bN,hx.r]
    | false=>cases c5:idB (⟨⟨a_6,a_7,a_8⟩,a_9⟩:Idd)<;>simp[ar,au,ae,af,ab, *,bN,hx.r]
  ·clear h4
   simp[ar,au,ae,af,ab, *,bN,hx.r]
theorem tC(hR:fR l):limf env 32 [.agg [a8 a_1,a32 a_2,a8 a_3,aI a_4,aI a_5,a8 a_6,a32 a_7,a8 a_8,aI a_9,x]]=some (aI (bad (runB (⟨⟨⟨⟨a_1,a_2,a_3⟩,a_4⟩,a_5⟩,⟨⟨a_6,a_7,a_8⟩,a_9⟩,l⟩:Rn)))):=by
 have h:=jc a_1 a_2 a_3 a_4 a_5 a_6 a_7 a_8 a_9 hx hl hR
 refine aC (fn:=Try.f32) (c:=eN) rfl (by kernel_rfl) (by kernel_rfl) (by kernel_rfl) (by kernel_rfl) ?_;refine iC _ _ _ fun g=>?_
 cases hb:runB (⟨⟨⟨⟨a_1,a_2,a_3⟩,a_4⟩,a_5⟩,⟨⟨a_6,a_7,a_8⟩,a_9⟩,l⟩:Rn)<;>simp[ar,au,ae,af,ab, *,eO,hx.r]
theorem p8(b_1:UInt8)(b_2:UInt32)(b_3:UInt8)(b_4:Int)(b_5:Int)(b_6:UInt8)(b_7:UInt32)(b_8:UInt8)(b_9:Int){y:AV}{m:List Int}(hy:Sl 1 (rows m) y):limf env 30 [.agg [a8 a_1,a32 a_2,a8 a_3,aI a_4,aI a_5,a8 a_6,a32 a_7,a8 a_8,aI a_9,x],.agg [a8 b_1,a32 b_2,a8 b_3,aI b_4,aI b_5,a8 b_6,a32 b_7,a8 b_8,aI b_9,y]]=some (aB (decide ((⟨⟨⟨⟨a_1,a_2,a_3⟩,a_4⟩,a_5⟩,⟨⟨a_6,a_7,a_8⟩,a_9⟩,l⟩:Rn)=(⟨⟨⟨⟨b_1,b_2,b_3⟩,b_4⟩,b_5⟩,⟨⟨b_6,b_7,b_8⟩,b_9⟩,m⟩:Rn)))):=by
 refine aC (fn:=Try.f30) (c:=fb) rfl (by kernel_rfl) (by kernel_rfl) (by kernel_rfl) (by kernel_rfl) ?_;refine iV _ _ _ _ fun g=>?_
 have h1:=sL hx hy (by omega)
 have e:decide ((⟨⟨⟨⟨a_1,a_2,a_3⟩,a_4⟩,a_5⟩,⟨⟨a_6,a_7,a_8⟩,a_9⟩,l⟩:Rn)=(⟨⟨⟨⟨b_1,b_2,b_3⟩,b_4⟩,b_5⟩,⟨⟨b_6,b_7,b_8⟩,b_9⟩,m⟩:Rn))=((decide (a_1=b_1)&&decide (a_2=b_2)&&decide (a_3=b_3)&&decide (a_4=b_4)&&decide (a_5=b_5))&&((decide (a_6=b_6)&&decide (a_7=b_7)&&decide (a_8=b_8)&&decide (a_9=b_9))&&decide (l=m))):=by
  simp[and_assoc,Bool.and_assoc]
 rw[e]
 cases hA:(decide (a_1=b_1)&&decide (a_2=b_2)&&decide (a_3=b_3)&&decide (a_4=b_4)&&decide (a_5=b_5)) with
 | false=>simp[ar,au,ae,af,ab, *,cz,hx.r,hy.r,eqA,eqFs]
 | true =>
  cases hB:(decide (a_6=b_6)&&decide (a_7=b_7)&&decide (a_8=b_8)&&decide (a_9=b_9)) with
  | false=>simp[ar,au,ae,af,ab, *,cz,hx.r,hy.r,eqA,eqFs]
  | true=>simp[ar,au,ae,af,ab, *,cz,hx.r,hy.r,eqA,eqFs]
theorem p7:limf env 24 [.agg [a8 a_1,a32 a_2,a8 a_3,aI a_4,aI a_5,a8 a_6,a32 a_7,a8 a_8,aI a_9,x]]=some (.agg [a8 a_1,a32 a_2,a8 a_3,aI a_4,aI a_5,a8 a_6,a32 a_7,a8 a_8,aI a_9,outA 1 (rows l)]):=by
 refine aC (fn:=Try.f24) (c:=dq) rfl (by kernel_rfl) (by kernel_rfl) (by kernel_rfl) (by kernel_rfl) ?_;refine eU _ _ _ fun g=>?_
 have hlen:=hx.len
 have f2:l.length * 4≤140737488355328:=by omega
 by_cases h:l=[]
 ·subst h
  have e:outA 1 (rows [])=aNil:=rfl
  rw[e]
  simp[ar,au,ae,af,ab, *,cy,hx.r,hx.jo,rows]
 ·have hr:rows l≠[]:=by simpa using h
  rw[ak 1 hr]
  have f4:(rows l).length=l.length:=by simp[rows]
  simp[ar,au,ae,af,ab, *,cy,hx.r,hx.jo,appN]
theorem u6:limf env 31 [.agg [a8 a_1,a32 a_2,a8 a_3,aI a_4,aI a_5,a8 a_6,a32 a_7,a8 a_8,aI a_9,x]]=some (.agg [a8 a_1,a32 a_2,a8 a_3,aI a_4,aI a_5,a8 a_6,a32 a_7,a8 a_8,aI a_9,nF x]):=by
 refine aC (fn:=Try.f31) (c:=nI) rfl (by kernel_rfl) (by kernel_rfl) (by kernel_rfl) (by kernel_rfl) ?_;refine qP _ _ _ fun g=>?_
 have h1:=p4 hx (by omega) (by omega)
 rcases hx.BL with ⟨rfl,_⟩ | ⟨c,rfl⟩
 ·simp[ar,au,ae,af,ab, *,jA]
 ·by_cases he:l=[]
  ·subst he
   have h1':limf env 81 [.isl 1 [] c]=some (.fsl 1 [] (some 0)):=h1
   have e:nF (.isl 1 (List.map aR []) c) = .fsl 1 [] (some 0):=rfl
   simp[ar,au,ae,af,ab, *,jA,rows]
  ·have he':rows l≠[]:=by simpa using he
   rw[nE 1 c he']at h1 ⊢
   simp[ar,au,ae,af,ab, *,jA]
end
theorem kH(a_1:UInt8)(a_2:UInt32)(a_3:UInt8)(a_4:Int)(a_5:Int)(a_6:UInt8)(a_7:UInt32)(a_8:UInt8)(a_9:Int)(c:Option Nat){l:List Int}(he:0<l.length)(hl:l.length<1000000):limf env 24 [.agg [a8 a_1,a32 a_2,a8 a_3,aI a_4,aI a_5,a8 a_6,a32 a_7,a8 a_8,aI a_9,.isl 1 (rows l) c]]=some (.agg [a8 a_1,a32 a_2,a8 a_3,aI a_4,aI a_5,a8 a_6,a32 a_7,a8 a_8,aI a_9,.fsl 1 (rows l) none]):=by
 refine aC (fn:=Try.f24) (c:=dq) rfl (by kernel_rfl) (by kernel_rfl) (by kernel_rfl) (by kernel_rfl) ?_;refine eU _ _ _ fun g=>?_
 have f2:l.length * 4≤140737488355328:=by omega
 have he2:l≠[]:=by rintro rfl;simp at he
 simp[ar,au,ae,af,ab, *,cy,appN]
@[simp] theorem mi(a_1:UInt8)(a_2:UInt32)(a_3:UInt8)(a_4:Int)(a_5:Int)(a_6:UInt8)(a_7:UInt32)(a_8:UInt8)(a_9:Int)(n:Int){x:AV}{l:List Int}(hx:Sl 1 (rows l) x):limf env 85 [.agg [a8 a_1,a32 a_2,a8 a_3,aI a_4,aI a_5,a8 a_6,a32 a_7,a8 a_8,aI a_9,x],aI n]=some (.agg [a8 a_1,a32 a_2,a8 a_3,aI (IntKind.i64.wrap (a_4+n))]):=by
 refine aC (fn:=Try.f85) (c:=fW) rfl (by kernel_rfl) (by kernel_rfl) (by kernel_rfl) (by kernel_rfl) ?_;refine jZ _ _ _ _ fun g=>?_
 simp[ar,au,ae,af,ab, *,fZ,hx.r]
@[simp] theorem k8(a_1:UInt8)(a_2:UInt32)(a_3:UInt8)(a_4:Int)(a_5:Int)(a_6:UInt8)(a_7:UInt32)(a_8:UInt8)(a_9:Int)(n:Int){x:AV}{l:List Int}(hx:Sl 1 (rows l) x)(h0:0≤n)(h1:n<1000000):limf env 86 [.agg [a8 a_1,a32 a_2,a8 a_3,aI a_4,aI a_5,a8 a_6,a32 a_7,a8 a_8,aI a_9,x],aI n] =
 some (if n=0 then .agg [a8 a_6,a32 a_7,a8 a_8,aI a_9] else .agg [a8 a_1,a32 a_2,a8 a_3,aI (IntKind.i64.wrap (a_4+(n - 1)))]):=by
 have h:=mi a_1 a_2 a_3 a_4 a_5 a_6 a_7 a_8 a_9 (n - 1) hx
 have w:=IntWalk.i64_in (n - 1) (by omega)
 refine aC (fn:=Try.f86) (c:=er) rfl (by kernel_rfl) (by kernel_rfl) (by kernel_rfl) (by kernel_rfl) ?_;refine ij _ _ _ _ fun g=>?_
 by_cases hn:n=0
 ·subst hn
  simp[ar,au,ae,af,ab, *,cR,hx.r]
 ·simp[ar,au,ae,af,ab, *,cR,hx.r]
theorem xl(a_1:UInt8)(a_2:UInt32)(a_3:UInt8)(a_4:Int)(a_5:Int)(a_6:UInt8)(a_7:UInt32)(a_8:UInt8)(a_9:Int)(n:Int){x:AV}{l:List Int}(hx:Sl 1 (rows l) x)(hl:l.length<1000000)(hR:fR l)(h : ¬(runB (⟨⟨⟨⟨a_1,a_2,a_3⟩,a_4⟩,a_5⟩,⟨⟨a_6,a_7,a_8⟩,a_9⟩,l⟩:Rn)=true∧0≤n∧n<a_5)):limf env 29 [.agg [a8 a_1,a32 a_2,a8 a_3,aI a_4,aI a_5,a8 a_6,a32 a_7,a8 a_8,aI a_9,x],aI n] =
 some (.tup [.agg [a8 0,a32 0,a8 0,aI 0],.agg [a8 0,a32 0,a8 0,aI 0],.v (.int .i32 0),aI (if runB (⟨⟨⟨⟨a_1,a_2,a_3⟩,a_4⟩,a_5⟩,⟨⟨a_6,a_7,a_8⟩,a_9⟩,l⟩:Rn) then 2 else 8)]):=by
 refine aC (fn:=Try.f29) (c:=dO) rfl (by kernel_rfl) (by kernel_rfl) (by kernel_rfl) (by kernel_rfl) ?_;refine fO _ _ _ _ fun g=>?_
 have h1:=jc a_1 a_2 a_3 a_4 a_5 a_6 a_7 a_8 a_9 hx hl hR
 cases hb:runB (⟨⟨⟨⟨a_1,a_2,a_3⟩,a_4⟩,a_5⟩,⟨⟨a_6,a_7,a_8⟩,a_9⟩,l⟩:Rn) with
 | false =>
  clear h
  simp[ar,au,ae,af,ab, *,bR,hx.r]
 | true =>
  by_cases c1:n<0
  ·clear h
   simp[ar,au,ae,af,ab, *,bR,hx.r]
  ·have c2:a_5≤n:=Int.not_lt.1 fun c2=>h ⟨hb,by omega,c2⟩
   clear h
   simp[ar,au,ae,af,ab, *,bR,hx.r]
theorem zq(a_1:UInt8)(a_2:UInt32)(a_3:UInt8)(a_4:Int)(a_5:Int)(a_6:UInt8)(a_7:UInt32)(a_8:UInt8)(a_9:Int)(n:Int){x:AV}{l:List Int}(hx:Sl 1 (rows l) x)(hl:l.length<1000000)(hR:fR l)(hb:runB (⟨⟨⟨⟨a_1,a_2,a_3⟩,a_4⟩,a_5⟩,⟨⟨a_6,a_7,a_8⟩,a_9⟩,l⟩:Rn)=true)(h0:0≤n)(h1:n<a_5):limf env 29 [.agg [a8 a_1,a32 a_2,a8 a_3,aI a_4,aI a_5,a8 a_6,a32 a_7,a8 a_8,aI a_9,x],aI n] =
 some (.tup [.agg [a8 a_1,a32 a_2,a8 a_3,aI (a_4+n)],(if n=0 then .agg [a8 a_6,a32 a_7,a8 a_8,aI a_9] else .agg [a8 a_1,a32 a_2,a8 a_3,aI (a_4+(n - 1))]),aR (l[n.toNat]?.getD 0),aI 0]):=by
 refine aC (fn:=Try.f29) (c:=dO) rfl (by kernel_rfl) (by kernel_rfl) (by kernel_rfl) (by kernel_rfl) ?_;refine fO _ _ _ _ fun g=>?_
 have h2:=jc a_1 a_2 a_3 a_4 a_5 a_6 a_7 a_8 a_9 hx hl hR
 have hr:=gh hb
 simp only at hr
 obtain⟨hsp,hlen⟩:=hr
 have hsn:=dL hsp
 simp only at hsn
 have w1:=IntWalk.i64_in (a_4+n) (by omega)
 have w2:=IntWalk.i64_in (a_4+(n - 1)) (by omega)
 have h3:=mi a_1 a_2 a_3 a_4 a_5 a_6 a_7 a_8 a_9 n hx
 have h4:=k8 a_1 a_2 a_3 a_4 a_5 a_6 a_7 a_8 a_9 n hx h0 (by omega)
 rw[w1]at h3
 rw[w2]at h4
 obtain⟨c,rfl,hc⟩:=hx.islN (fD (by omega))
 have hg:l[n.toNat]?=some (l[n.toNat]'(by omega)):=List.getElem?_eq_getElem _
 have hlt:n<l.length:=by omega
 generalize l[n.toNat]'(by omega)=v at *
 have gr:(rows l)[n.toNat]?=some (aR v):=by simp[rows,hg]
 have n1 : ¬n<0:=by omega
 have n2 : ¬a_5≤n:=by omega
 by_cases hz:n=0
 ·subst hz
  have hg0:l[0]?=some v:=hg
  simp[ar,au,ae,af,ab, *,bR,hx.idx]
 ·simp[ar,au,ae,af,ab, *,bR,hx.idx]
end Go.Proofs.Ytjampffmlnplcaa
