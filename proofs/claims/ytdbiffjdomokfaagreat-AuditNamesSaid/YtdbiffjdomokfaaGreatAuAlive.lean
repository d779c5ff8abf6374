/-
  The chapter's examples. No statement of a seat is proved here.
-/
import Derived.Test.YtdbiffjdomokfaaGreatMAuSame
import Derived.Test.YtdbiffjdomokfaaGreatAuVc11
set_option linter.unusedVariables false
set_option linter.unusedSimpArgs false
set_option linter.unusedSectionVars false
set_option maxRecDepth 100000
namespace Go.Proofs.YtdbiffjdomokfaaGreat
open Go.Ab
attribute [local simp] bK bw bo bM bL dc kS bU bx bH dJ dI cp bX bh cC List.take_of_length_le
@[simp] theorem YP:bj env 11 []=some (.agg [a8 1,aF 0,a8 0]):=by
 refine aJ (fn:=Tryz.f11) (c:=oF) rfl (by kernel_rfl) (by kernel_rfl) (by kernel_rfl) (by kernel_rfl) ?_;refine tp _ _ fun g=>?_
 simp[ah,ai,ae,af,ad, *,oI]
theorem OX:bj env 8 []=some (.agg [.cm 3 [.agg [a8 1,aF 0,aB true]] (some 1),.cm 5 [.agg [a8 1,aF 0,aI 1,aI 2,aI 2]] (some 1),aI 0]):=by
 refine aJ (fn:=Tryz.f8) (c:=oE) rfl (by kernel_rfl) (by kernel_rfl) (by kernel_rfl) (by kernel_rfl) ?_;refine tn _ _ fun g=>?_
 simp[ah,ai,ae,af,ad, *,oH]
theorem YY:tz env.P ⟨0,18,0,0⟩ 48 (some (aI 2)) (some (aI 2))=some (.cG ⟨0,18,0,0⟩ 0 2 none,[⟨1,[aR 0,aR 0],true,false⟩]):=by kernel_rfl
theorem YZ:tz env.P ⟨0,18,0,0⟩ 48 (some (aI 1)) (some (aI 1))=some (.cG ⟨0,18,0,0⟩ 0 1 none,[⟨1,[aR 0],true,false⟩]):=by kernel_rfl
def Ln(s c m:Int)(x:AV)(code:Int):AV :=
 .agg [a8 2,aI 0,a8 1,a8 1,aF 0,a8 0,aI s,a8 1,aF 0,a8 0,aI c,aI m,a8 0,aF 0,a8 0,aI 0,a8 0,aF 0,x,aI code,aI 0,a8 0,aF 0,aB false]
theorem Qe:bj env 24 [aI 1,aI 1,aI 2,aI 0]=some (Ln 1 1 2 (.cm 1 (rows [0,0]) none) 0):=by
 refine aJ (fn:=Tryz.f24) (c:=jR) rfl (by kernel_rfl) (by kernel_rfl) (by kernel_rfl) (by kernel_rfl) ?_;refine mN _ _ _ _ _ _ fun g=>?_
 simp[ah,ai,ae,af,ad, *,jT,YY]
 rfl
theorem Qd:bj env 24 [aI 2,aI 3,aI 1,aI 9]=some (Ln 2 3 1 (.cm 1 (rows [0]) none) 9):=by
 refine aJ (fn:=Tryz.f24) (c:=jR) rfl (by kernel_rfl) (by kernel_rfl) (by kernel_rfl) (by kernel_rfl) ?_;refine mN _ _ _ _ _ _ fun g=>?_
 simp[ah,ai,ae,af,ad, *,jT,YZ]
 rfl
def UC:mv:=⟨1,0,⟨0,⟨1,0,0⟩,0,⟨⟨⟨0,0,0⟩,0⟩,0⟩,⟨⟨0,0,0⟩,0⟩,⟨0,0⟩,[]⟩,0,0,0,0,false⟩
def UB:mv:=⟨2,0,⟨1,⟨1,0,0⟩,1,⟨⟨⟨1,0,0⟩,1⟩,2⟩,⟨⟨0,0,0⟩,0⟩,⟨0,0⟩,[0,0]⟩,0,0,0,0,false⟩
def UA:mv:=⟨2,0,⟨1,⟨1,0,0⟩,2,⟨⟨⟨1,0,0⟩,3⟩,1⟩,⟨⟨0,0,0⟩,0⟩,⟨0,0⟩,[0]⟩,9,0,0,0,false⟩
def jW:List (mv × AV):=[(UC,dg),(UB,.cm 1 (rows [0,0]) none),(UA,.cm 1 (rows [0]) none)]
theorem Ic:bj env 9 []=some (.cm 24 (dk jW) (some 3)):=by
 refine aJ (fn:=Tryz.f9) (c:=na) rfl (by kernel_rfl) (by kernel_rfl) (by kernel_rfl) (by kernel_rfl) ?_;refine rW _ _ fun g=>?_
 have h1:=Qe
 have h2:=Qd
 unfold Ln at h1 h2
 simp[ah,ai,ae,af,ad, *,nm,h1,h2]
 rfl
theorem A3 : ∀p∈jW,AK p:=by
 intro p hp
 simp only[jW,List.mem_cons,List.not_mem_nil,or_false]at hp
 rcases hp with rfl | rfl | rfl
 ·exact⟨.inl ⟨rfl,rfl⟩,by simp[UC]⟩
 ·exact⟨.inr ⟨none,rfl,by simp⟩,by simp[UB]⟩
 ·exact⟨.inr ⟨none,rfl,by simp⟩,by simp[UA]⟩
def DC:List Clear:=[⟨1,0,true⟩]
def DL:List bI:=[⟨1,0,1,2,2⟩]
theorem QF:(Ca DC DL 0 jW).isSome=true:=by kernel_rfl
theorem yf:Sl 24 (dk jW) (.cm 24 (dk jW) (some 3)) := .inr ⟨some 3,rfl,by simp[jW,dk]⟩
theorem EX:Sl 3 (fD DC) (.cm 3 [.agg [a8 1,aF 0,aB true]] (some 1)) := .inr ⟨some 1,rfl,by simp[DC,fD]⟩
theorem EY:Sl 5 (fQ DL) (.cm 5 [.agg [a8 1,aF 0,aI 1,aI 2,aI 2]] (some 1)) := .inr ⟨some 1,rfl,by simp[DL,fQ]⟩
def vT:List nx:=[⟨⟨1,0,0⟩,0,0⟩,⟨⟨1,0,0⟩,1,0⟩,⟨⟨1,0,0⟩,2,9⟩]
theorem IM:mc (jW.filter (gB ⟨1,0⟩))=vT:=by kernel_rfl
theorem Nm : ∃x,Sl 5 (iT vT) x∧bj env 10 [.agg [.cm 3 [.agg [a8 1,aF 0,aB true]] (some 1),.cm 5 [.agg [a8 1,aF 0,aI 1,aI 2,aI 2]] (some 1),aI 0],.cm 24 (dk jW) (some 3),.agg [a8 1,aF 0]]=some (.tup [x,aI 0]):=by
 obtain⟨y,h,hA⟩:=Ig (gr:=0) EX EY (by simp[DC]) (by simp[DL]) yf A3 (by simp[jW]) 1 0
 unfold DF at hA
 rw[if_pos ⟨QF,by decide⟩,IM]at hA
 obtain⟨x,hs,rfl⟩:=hA
 exact⟨x,hs,h⟩
theorem Mj:bj env 7 [.agg [.cm 3 [.agg [a8 1,aF 0,aB true]] (some 1),.cm 5 [.agg [a8 1,aF 0,aI 1,aI 2,aI 2]] (some 1),aI 0],.cm 24 (dk jW) (some 3),.agg [a8 1,aF 0]]=some (.tup [.agg [aI 1,aI 1,aI 1,aI 0],aI 0]):=by
 have h:=Aw (gr:=0) EX EY (by simp[DC]) (by simp[DL]) yf A3 (by simp[jW]) 1 0
 unfold xF at h
 rw[if_pos ⟨QF,by decide⟩,IM]at h
 exact h
theorem YD:cb env.P 22 (some [(0,.v (.int .i64 1)),(1,.v (.int .i64 1)),(2,.v (.int .i64 1)),(3,.v (.int .i64 0))])=some (.agg [aI 1,aI 1,aI 1,aI 0],[]):=by kernel_rfl
theorem Yl(xo yo:Operand):aE env.P .eql 22 xo yo (some (.agg [aI 1,aI 1,aI 1,aI 0])) (some (.agg [aI 1,aI 1,aI 1,aI 0]))=some (aB true,[]):=by kernel_rfl
@[simp] theorem Sa:bj env 12 []=some (aB true):=by
 refine aJ (fn:=Tryz.f12) (c:=lO) rfl (by kernel_rfl) (by kernel_rfl) (by kernel_rfl) (by kernel_rfl) ?_;refine qK _ _ fun g=>?_
 obtain⟨x,hs,ht⟩:=Nm
 have hc:=Mj
 have hp:=OX
 have hl:=Ic
 have hS:=KQ (b:=vT) (y := .cm 5 (iT vT) (some 3)) hs (.inr ⟨some 3,rfl,by simp[vT]⟩) (by simp[vT])
 have he:iT vT=[.agg [a8 1,aF 0,a8 0,aI 0,aI 0],.agg [a8 1,aF 0,a8 0,aI 1,aI 0],.agg [a8 1,aF 0,a8 0,aI 2,aI 9]]:=rfl
 have hlr:=yf.r
 rw[he]at hS
 simp only[decide_true]at hS
 generalize dk jW=er at *
 simp[ah,ai,ae,af,ad, *,lQ,hp,hl,ht,hc,hs.r,hS,YD,Yl]
end Go.Proofs.YtdbiffjdomokfaaGreat
