/-
  The document's answers on ids, runes and operations. No statement of a seat is proved here.
-/
import Derived.Test.YtjampffmlnplcaaOpFns
set_option linter.unusedVariables false
set_option linter.unusedSimpArgs false
set_option linter.unusedSectionVars false
set_option linter.unnecessarySimpa false
set_option maxRecDepth 100000
namespace Go.Proofs.Ytjampffmlnplcaa
open Go.Ab
attribute [local simp] fK ek eo keep thr fL ew eu ky ku dJ List.take_of_length_le
@[simp] theorem DG(a:UInt8)(b:UInt32):limf env 123 [.agg [a8 a,a32 b]]=some (aB (decide (a≤15))):=by
 refine aC (fn:=Try.f123) (c:=fx) rfl (by kernel_rfl) (by kernel_rfl) (by kernel_rfl) (by kernel_rfl) ?_;refine jK _ _ _ fun g=>?_
 simp[ar,au,ae,af,ab, *,fB]
@[simp] theorem yI(a:UInt8)(b:UInt32)(n:UInt8):limf env 118 [.agg [a8 a,a32 b,a8 n]]=some (aB (qp ⟨a,b,n⟩)):=by
 refine aC (fn:=Try.f118) (c:=dE) rfl (by kernel_rfl) (by kernel_rfl) (by kernel_rfl) (by kernel_rfl) ?_;refine gn _ _ _ fun g=>?_
 simp[ar,au,ae,af,ab, *,dH,qp]
 repeat' ((first | refine pH (fun h=>?_) (fun h=>?_) | refine lX (fun h=>?_) (fun h=>?_) | refine lY (fun h=>?_) (fun h=>?_) | refine lV (fun h=>?_) (fun h=>?_) | refine lW (fun h=>?_) (fun h=>?_))<;>(try simp only[decide_eq_true_eq,decide_eq_false_iff_not,Bool.not_eq_true',Bool.not_eq_false',Bool.and_eq_true,Bool.or_eq_true]at h)<;>(try simp[ar,au,ae,af,ab, *]))
@[simp] theorem DF(a:UInt8)(b:UInt32)(n:UInt8)(k:Int):limf env 121 [.agg [a8 a,a32 b,a8 n,aI k]]=some (aB (idB ⟨⟨a,b,n⟩,k⟩)):=by
 refine aC (fn:=Try.f121) (c:=fw) rfl (by kernel_rfl) (by kernel_rfl) (by kernel_rfl) (by kernel_rfl) ?_;refine jJ _ _ _ fun g=>?_
 simp[ar,au,ae,af,ab, *,fA,idB]
 repeat' ((first | refine pH (fun h=>?_) (fun h=>?_) | refine lX (fun h=>?_) (fun h=>?_) | refine lY (fun h=>?_) (fun h=>?_) | refine lV (fun h=>?_) (fun h=>?_) | refine lW (fun h=>?_) (fun h=>?_))<;>(try simp only[decide_eq_true_eq,decide_eq_false_iff_not,Bool.not_eq_true',Bool.not_eq_false',Bool.and_eq_true,Bool.or_eq_true]at h)<;>(try simp[ar,au,ae,af,ab, *]))
@[simp] theorem AB(a:UInt8)(b:UInt32)(n:UInt8)(k m:Int):limf env 119 [.agg [a8 a,a32 b,a8 n,aI k,aI m]]=some (aB (fm ⟨⟨⟨a,b,n⟩,k⟩,m⟩)):=by
 refine aC (fn:=Try.f119) (c:=dW) rfl (by kernel_rfl) (by kernel_rfl) (by kernel_rfl) (by kernel_rfl) ?_;refine gY _ _ _ fun g=>?_
 cases hb:idB ⟨⟨a,b,n⟩,k⟩ with
 | false=>simp[ar,au,ae,af,ab, *,bJ,fm]
 | true =>
  have hn:=zU hb
  simp only at hn
  by_cases h1:1≤m
  ·by_cases h2:m≤64
   ·have w1:=IntWalk.i64_in (1099511627777 - m) (by omega)
    have e:decide (k+m - 1≤1099511627776)=decide (k≤1099511627777 - m):=by
     by_cases h:k≤1099511627777 - m
     ·rw[decide_eq_true h,decide_eq_true (by omega)]
     ·rw[decide_eq_false h,decide_eq_false (by omega)]
    simp[ar,au,ae,af,ab, *,bJ,fm]
   ·simp[ar,au,ae,af,ab, *,bJ,fm]
  ·simp[ar,au,ae,af,ab, *,bJ,fm]
@[simp] theorem CF(a:UInt8)(b:UInt32)(n:UInt8)(k:Int):limf env 120 [.agg [a8 a,a32 b,a8 n,aI k]]=some (aB (eQ ⟨⟨a,b,n⟩,k⟩)):=by
 refine aC (fn:=Try.f120) (c:=fc) rfl (by kernel_rfl) (by kernel_rfl) (by kernel_rfl) (by kernel_rfl) ?_;refine iW _ _ _ fun g=>?_
 simp[ar,au,ae,af,ab, *,fj,eqA,eqFs,eQ]
@[simp] theorem Ew(n:Int):limf env 149 [aI n]=some (aB (ly n)):=by
 refine aC (fn:=Try.f149) (c:=fX) rfl (by kernel_rfl) (by kernel_rfl) (by kernel_rfl) (by kernel_rfl) ?_;refine j1 _ _ _ fun g=>?_
 have e:ly n=(decide (0≤n)&&(decide (n≤1114111)&&(decide (n<55296)||decide (57343<n)))):=by
  unfold ly
  rw[Bool.eq_iff_iff]
  simp only[Bool.or_eq_true,Bool.and_eq_true,decide_eq_true_eq]
  omega
 rw[e]
 simp[ar,au,ae,af,ab, *,ga]
 repeat' ((first | refine pH (fun h=>?_) (fun h=>?_) | refine lX (fun h=>?_) (fun h=>?_) | refine lY (fun h=>?_) (fun h=>?_) | refine lV (fun h=>?_) (fun h=>?_) | refine lW (fun h=>?_) (fun h=>?_))<;>(try simp only[decide_eq_true_eq,decide_eq_false_iff_not,Bool.not_eq_true',Bool.not_eq_false',Bool.and_eq_true,Bool.or_eq_true]at h)<;>(try simp[ar,au,ae,af,ab, *]))
theorem qb{l:List Int}{x0:AV}(hx:Sl 1 (rows l) x0)(hl:l.length<4611686018427387904)(hR : ∀a∈l, -2147483648≤a∧a≤2147483647){Q:AV→Heap→Prop}{H:Heap} :
 ∀(s:List Int)(k:Nat)(i:Int),l.drop k=s→k≤l.length→i=k→(∀y,y=aI (bad (s.all ik))→Q y H) →
 GoL env Try.f122 0 bV [(3,aI i),(0,x0)] H Q:=by
 intro s
 induction s with
 | nil =>
  rintro k i hs hk rfl hQ
  obtain rfl:=drop_nil hs hk
  refine dT _ _ _ _ fun g=>?_
  simp[ar,au,ae,af,ab, *,bK,hx.r]
  all_goals exact hQ _ rfl
 | cons a s ih =>
  rintro k i hs hk rfl hQ
  obtain⟨hlt,hg,hs',hg'⟩:=drop_cons hs
  have ha:=hR a (by rw[←hg];exact List.getElem_mem _)
  refine dT _ _ _ _ fun g=>?_
  have e3:=IntWalk.i64_in ((k:Int)+1) (by omega)
  have e4:=IntWalk.i64_in a (by omega)
  have hrb:ik a=(decide (a = -1)||ly a):=by simp[ik,ly,Bool.or_assoc]
  by_cases h1:a = -1
  ·subst h1
   have hQ' : ∀y,y=aI (bad (s.all ik))→Q y H:=fun y e=>hQ y (by rw[e];simp[ik])
   clear hQ
   simp[ar,au,ae,af,ab, *,bK,hx.r,hx.idx,aR]
   exact ih (k+1) _ hs' (by omega) (by simp) hQ'
  ·cases hv:ly a with
   | true =>
    have hQ' : ∀y,y=aI (bad (s.all ik))→Q y H:=fun y e=>hQ y (by rw[e];simp[hrb,hv])
    clear hQ hrb
    simp[ar,au,ae,af,ab, *,bK,hx.r,hx.idx,aR]
    exact ih (k+1) _ hs' (by omega) (by simp) hQ'
   | false =>
    have hQ' : ∀y,y=aI 8→Q y H:=fun y e=>hQ y (by rw[e];simp[hrb,hv,h1])
    clear hQ hrb
    simp[ar,au,ae,af,ab, *,bK,hx.r,hx.idx,aR]
    all_goals exact hQ' _ rfl
theorem p6{l:List Int}{x:AV}(hx:Sl 1 (rows l) x)(hl:l.length<4611686018427387904)(hR : ∀a∈l, -2147483648≤a∧a≤2147483647):limf env 122 [x]=some (aI (rowE l)):=by
 refine aC (fn:=Try.f122) (c:=cZ) rfl (by kernel_rfl) (by kernel_rfl) (by kernel_rfl) (by kernel_rfl) ?_;refine iD _ _ _ fun g=>?_
 by_cases h64:64<l.length
 ·have:(64:Int)<l.length:=by omega
  simp[ar,au,ae,af,ab, *,c9,rowE,hx.r]
 ·have : ¬(64:Int)<l.length:=by omega
  have e:rowE l=bad (l.all ik):=by unfold rowE bad;rw[if_neg h64]
  simp[ar,au,ae,af,ab, *,c9,hx.r]
  exact qb hx hl hR l 0 _ rfl (by omega) rfl (fun y e=>by simp[e])
theorem zo(a_1:UInt8)(a_2:UInt8)(a_3:UInt32)(a_4:UInt8)(a_5:Int)(a_6:UInt8)(a_7:UInt32)(a_8:UInt8)(a_9:Int)(a_10:Int)(a_11:UInt8)(a_12:UInt32)(a_13:UInt8)(a_14:Int)(a_15:UInt8)(a_16:UInt32){x:AV}{l:List Int}(hx:Sl 1 (rows l) x)(hl:l.length<2000000)(hR : ∀a∈l, -2147483648≤a∧a≤2147483647):limf env 82 [.agg [a8 a_1,a8 a_2,a32 a_3,a8 a_4,aI a_5,a8 a_6,a32 a_7,a8 a_8,aI a_9,aI a_10,a8 a_11,a32 a_12,a8 a_13,aI a_14,a8 a_15,a32 a_16,x]]=some (aB (opB (⟨a_1,⟨a_2,a_3,a_4⟩,a_5,⟨⟨⟨a_6,a_7,a_8⟩,a_9⟩,a_10⟩,⟨⟨a_11,a_12,a_13⟩,a_14⟩,⟨a_15,a_16⟩,l⟩:Opn))):=by
 refine aC (fn:=Try.f82) (c:=fv) rfl (by kernel_rfl) (by kernel_rfl) (by kernel_rfl) (by kernel_rfl) ?_;refine jI _ _ _ fun g=>?_
 have h3:=p6 hx (by omega) hR
 have h4:=lJ l
 unfold opB
 cases c1:qp ⟨a_2,a_3,a_4⟩ with
 | false=>simp[ar,au,ae,af,ab, *,aD,hx.r]
 | true =>
 rcases Int.lt_or_le a_5 1 with c2' | c2
 ·have c2 : ¬1≤a_5:=by omega
  simp[ar,au,ae,af,ab, *,aD,hx.r]
 have c2' : ¬a_5<1:=by omega
 rcases Int.lt_or_le a_5 16777216 with c3 | c3'
 rotate_left
 ·have c3 : ¬a_5<16777216:=by omega
  simp[ar,au,ae,af,ab, *,aD,hx.r]
 have c3' : ¬16777216≤a_5:=by omega
 cases c4:fm ⟨⟨⟨a_6,a_7,a_8⟩,a_9⟩,a_10⟩ with
 | false=>simp[ar,au,ae,af,ab, *,aD,hx.r]
 | true =>
 by_cases k1:a_1=1
 ·subst k1
  unfold mayB
  simp only[insB,if_true]
  cases hz:mM (⟨a_15,a_16⟩:Lab) with
  | false =>
   unfold mM at hz
   simp[ar,au,ae,af,ab, *,aD,hx.r,eqA,eqFs]
  | true =>
   unfold mM at hz
   cases hS:q0 ⟨a_6,a_7,a_8⟩ ⟨a_2,a_3,a_4⟩ with
   | false =>
    unfold q0 at hS
    cases hA:eQ (⟨⟨a_11,a_12,a_13⟩,a_14⟩:Idd) with
    | false=>cases hI:idB (⟨⟨a_11,a_12,a_13⟩,a_14⟩:Idd)<;>simp[ar,au,ae,af,ab, *,aD,hx.r,eqA,eqFs]
    | true=>simp[ar,au,ae,af,ab, *,aD,hx.r,eqA,eqFs]
   | true =>
    unfold q0 at hS
    by_cases hL:(l.length:Int)=a_10
    ·cases hA:eQ (⟨⟨a_11,a_12,a_13⟩,a_14⟩:Idd) with
     | false=>cases hI:idB (⟨⟨a_11,a_12,a_13⟩,a_14⟩:Idd)<;>simp[ar,au,ae,af,ab, *,aD,hx.r,eqA,eqFs]
     | true=>simp[ar,au,ae,af,ab, *,aD,hx.r,eqA,eqFs]
    ·cases hA:eQ (⟨⟨a_11,a_12,a_13⟩,a_14⟩:Idd) with
     | false=>cases hI:idB (⟨⟨a_11,a_12,a_13⟩,a_14⟩:Idd)<;>simp[ar,au,ae,af,ab, *,aD,hx.r,eqA,eqFs]
     | true=>simp[ar,au,ae,af,ab, *,aD,hx.r,eqA,eqFs]
 ·by_cases hb:pI (⟨a_1,⟨a_2,a_3,a_4⟩,a_5,⟨⟨⟨a_6,a_7,a_8⟩,a_9⟩,a_10⟩,⟨⟨a_11,a_12,a_13⟩,a_14⟩,⟨a_15,a_16⟩,l⟩:Opn)=true
  ·have hb2:=hb
   simp only[pI,Bool.and_eq_true,decide_eq_true_eq]at hb2
   obtain⟨hA,hl0⟩:=hb2
   subst hl0
   unfold mayB
   by_cases k2:a_1=2
   ·subst k2
    simp only[delB,if_true]
    cases hz:mM (⟨a_15,a_16⟩:Lab) with
    | false =>
     unfold mM at hz
     simp[ar,au,ae,af,ab, *,aD,hx.r,eqA,eqFs]
    | true =>
     unfold mM at hz
     simp[ar,au,ae,af,ab, *,aD,hx.r,eqA,eqFs]
   ·by_cases k3:a_1=3
    ·subst k3
     simp only[raiB,if_true]
     simp[ar,au,ae,af,ab, *,aD,hx.r,eqA,eqFs]
    ·simp[ar,au,ae,af,ab, *,aD,hx.r,eqA,eqFs]
  ·have hm:mayB (⟨a_1,⟨a_2,a_3,a_4⟩,a_5,⟨⟨⟨a_6,a_7,a_8⟩,a_9⟩,a_10⟩,⟨⟨a_11,a_12,a_13⟩,a_14⟩,⟨a_15,a_16⟩,l⟩:Opn)=false:=by
    have hb':pI (⟨a_1,⟨a_2,a_3,a_4⟩,a_5,⟨⟨⟨a_6,a_7,a_8⟩,a_9⟩,a_10⟩,⟨⟨a_11,a_12,a_13⟩,a_14⟩,⟨a_15,a_16⟩,l⟩:Opn)=false:=by simpa using hb
    unfold mayB delB raiB
    rw[hb']
    simp[k1]
   simp only[pI,Bool.and_eq_true,decide_eq_true_eq,not_and]at hb
   cases hA:eQ (⟨⟨a_11,a_12,a_13⟩,a_14⟩:Idd) with
   | false =>
    clear hb
    simp[ar,au,ae,af,ab, *,aD,hx.r,eqA,eqFs]
   | true =>
    have hl0:0<l.length:=List.length_pos_iff.2 (hb hA)
    have hl1 : ¬l=[]:=hb hA
    clear hb
    simp[ar,au,ae,af,ab, *,aD,hx.r,eqA,eqFs]
end Go.Proofs.Ytjampffmlnplcaa
