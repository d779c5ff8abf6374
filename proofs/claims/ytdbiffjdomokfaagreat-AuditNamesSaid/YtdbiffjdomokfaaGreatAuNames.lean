/-
  AuditNames. No statement of a seat is proved here.
-/
import Derived.Test.YtdbiffjdomokfaaGreatAuAlive
import Derived.Test.YtdbiffjdomokfaaGreatAuVl3
set_option linter.unusedVariables false
set_option linter.unusedSimpArgs false
set_option linter.unusedSectionVars false
set_option maxRecDepth 100000
namespace Go.Proofs.YtdbiffjdomokfaaGreat
open Go.Ab
attribute [local simp] bK bw bo bM bL dc kS bU bx bH dJ dI cp bX bh cC List.take_of_length_le
theorem Yu:bj env 7 [.agg [.cm 3 [.agg [a8 1,aF 0,aB true]] (some 1),.cm 5 [.agg [a8 1,aF 0,aI 1,aI 2,aI 2]] (some 1),aI 0],.cm 24 (dk jW) (some 3),.agg [a8 0,aF 0]]=some (.tup [.agg [aI 0,aI 0,aI 0,aI 0],aI 0]):=by
 have h:=Aw (gr:=0) EX EY (by simp[DC]) (by simp[DL]) yf A3 (by simp[jW]) 0 0
 unfold xF at h
 rw[if_pos ⟨QF,by decide⟩,show jW.filter (gB ⟨0,0⟩)=[] from by kernel_rfl]at h
 exact h
theorem VN:bj env 7 [.agg [.cm 3 [.agg [a8 1,aF 0,aB true]] (some 1),.cm 5 [.agg [a8 1,aF 0,aI 1,aI 2,aI 2]] (some 1),aI 0],.cm 24 (dk jW) (some 3),.agg [a8 16,aF 0]]=some (.tup [.agg [aI 0,aI 0,aI 0,aI 0],aI 8]):=by
 have h:=Aw (gr:=0) EX EY (by simp[DC]) (by simp[DL]) yf A3 (by simp[jW]) 16 0
 unfold xF at h
 rw[if_neg (fun h=>absurd h.2 (by decide))]at h
 exact h
theorem XX{x:AV}(hx:Sl 24 (dk jW.tail) x):bj env 10 [.agg [.cm 3 [.agg [a8 1,aF 0,aB true]] (some 1),.cm 5 [.agg [a8 1,aF 0,aI 1,aI 2,aI 2]] (some 1),aI 0],x,.agg [a8 1,aF 0]]=some (.tup [dg,aI 8]):=by
 obtain⟨y,h,hA⟩:=Ig (gr:=0) EX EY (by simp[DC]) (by simp[DL]) hx (fun p hp=>A3 p (List.mem_of_mem_tail hp)) (by simp[jW]) 1 0
 unfold DF at hA
 rw[if_neg (fun h=>absurd h.1 (by rw[show(Ca DC DL 0 jW.tail).isSome=false from by kernel_rfl];simp))]at hA
 subst hA
 exact h
theorem YC:cb env.P 35 (some [])=some (.agg [a8 0,aF 0],[]):=by kernel_rfl
theorem VU:cb env.P 35 (some [(0,a8 16)])=some (.agg [a8 16,aF 0],[]):=by kernel_rfl
theorem VV:cb env.P 22 (some [])=some (.agg [aI 0,aI 0,aI 0,aI 0],[]):=by kernel_rfl
theorem Vz(xo yo:Operand):aE env.P .eql 22 xo yo (some (.agg [aI 0,aI 0,aI 0,aI 0])) (some (.agg [aI 0,aI 0,aI 0,aI 0]))=some (aB true,[]):=by kernel_rfl
theorem JI:bj env 3 []=some (aB true):=by
 refine aJ (fn:=Tryz.f3) (c:=jG) rfl (by kernel_rfl) (by kernel_rfl) (by kernel_rfl) (by kernel_rfl) ?_;refine oh _ _ fun g=>?_
 have h0:=Yu
 have h16:=VN
 have h1:=fun x hx=>XX (x:=x) hx
 have hp:=OX
 have hl:=Ic
 have hlr:=yf.r
 have hlen:(dk jW).length=3:=rfl
 have htl:dk jW.tail=(dk jW).drop 1:=rfl
 rw[htl]at h1
 generalize dk jW=er at *
 simp[ah,ai,ae,af,ad, *,jI,hp,hl,YC,VU,h0,h16,VV,Vz]
end Go.Proofs.YtdbiffjdomokfaaGreat
