/-
  The chapter's examples. No statement of a seat is proved here.
-/
import Derived.Test.YtdbiffjdomokfaaGreatMAuSame
import Derived.Test.YtdbiffjdomokfaaGreatAuVc11
set_option linter.unusedVariables false
set_option linter.unusedSimpArgs false
set_option linter.unusedSectionVars false
set_option maxRecDepth 100000
namespace Go.Proofs.YtdbiffjdomokfaaGreat
open Go.Ab
attribute [local simp] bD bq bo bF bE cZ ld bQ bx bA dx dw cg bT aY ct List.take_of_length_le
@[simp] theorem aas:bj env 11 []=some (.agg [a8 1,aF 0,a8 0]):=by
 refine aL (fn:=Tryz.f11) (c:=o9) rfl (by kernel_rfl) (by kernel_rfl) (by kernel_rfl) (by kernel_rfl) ?_;refine uw _ _ fun g=>?_
 simp[ah,ai,ae,af,ad, *,pd]
theorem Wk:bj env 8 []=some (.agg [.cw 3 [.agg [a8 1,aF 0,aB true]] (some 1),.cw 5 [.agg [a8 1,aF 0,aI 1,aI 2,aI 2]] (some 1),aI 0]):=by
 refine aL (fn:=Tryz.f8) (c:=o8) rfl (by kernel_rfl) (by kernel_rfl) (by kernel_rfl) (by kernel_rfl) ?_;refine uv _ _ fun g=>?_
 simp[ah,ai,ae,af,ad, *,pb]
theorem mk2:uE env.P ⟨0,18,0,0⟩ 48 (some (aI 2)) (some (aI 2))=some (.cH ⟨0,18,0,0⟩ 0 2 none,[⟨1,[aR 0,aR 0],true,false⟩]):=by kernel_rfl
theorem mk1:uE env.P ⟨0,18,0,0⟩ 48 (some (aI 1)) (some (aI 1))=some (.cH ⟨0,18,0,0⟩ 0 1 none,[⟨1,[aR 0],true,false⟩]):=by kernel_rfl
def MW(s c m:Int)(x:AV)(code:Int):AV :=
 .agg [a8 2,aI 0,a8 1,a8 1,aF 0,a8 0,aI s,a8 1,aF 0,a8 0,aI c,aI m,a8 0,aF 0,a8 0,aI 0,a8 0,aF 0,x,aI code,aI 0,a8 0,aF 0,aB false]
theorem R4:bj env 24 [aI 1,aI 1,aI 2,aI 0]=some (MW 1 1 2 (.cw 1 (rows [0,0]) none) 0):=by
 refine aL (fn:=Tryz.f24) (c:=kB) rfl (by kernel_rfl) (by kernel_rfl) (by kernel_rfl) (by kernel_rfl) ?_;refine nu _ _ _ _ _ _ fun g=>?_
 simp[ah,ai,ae,af,ad, *,kD,mk2]
 rfl
theorem R3:bj env 24 [aI 2,aI 3,aI 1,aI 9]=some (MW 2 3 1 (.cw 1 (rows [0]) none) 9):=by
 refine aL (fn:=Tryz.f24) (c:=kB) rfl (by kernel_rfl) (by kernel_rfl) (by kernel_rfl) (by kernel_rfl) ?_;refine nu _ _ _ _ _ _ fun g=>?_
 simp[ah,ai,ae,af,ad, *,kD,mk1]
 rfl
def Wt:jr:=⟨1,0,⟨0,⟨1,0,0⟩,0,⟨⟨⟨0,0,0⟩,0⟩,0⟩,⟨⟨0,0,0⟩,0⟩,⟨0,0⟩,[]⟩,0,0,0,0,false⟩
def Ws:jr:=⟨2,0,⟨1,⟨1,0,0⟩,1,⟨⟨⟨1,0,0⟩,1⟩,2⟩,⟨⟨0,0,0⟩,0⟩,⟨0,0⟩,[0,0]⟩,0,0,0,0,false⟩
def Wr:jr:=⟨2,0,⟨1,⟨1,0,0⟩,2,⟨⟨⟨1,0,0⟩,3⟩,1⟩,⟨⟨0,0,0⟩,0⟩,⟨0,0⟩,[0]⟩,9,0,0,0,false⟩
def sn:List (jr × AV):=[(Wt,cW),(Ws,.cw 1 (rows [0,0]) none),(Wr,.cw 1 (rows [0]) none)]
theorem Po:bj env 9 []=some (.cw 24 (cI sn) (some 3)):=by
 refine aL (fn:=Tryz.f9) (c:=nQ) rfl (by kernel_rfl) (by kernel_rfl) (by kernel_rfl) (by kernel_rfl) ?_;refine sR _ _ fun g=>?_
 have h1:=R4
 have h2:=R3
 unfold MW at h1 h2
 simp[ah,ai,ae,af,ad, *,nZ,h1,h2]
 rfl
theorem Nx : ∀p∈sn,xW p:=by
 intro p hp
 simp only[sn,List.mem_cons,List.not_mem_nil,or_false]at hp
 rcases hp with rfl | rfl | rfl
 ·exact⟨.inl ⟨rfl,rfl⟩,by simp[Wt]⟩
 ·exact⟨.inr ⟨none,rfl,by simp⟩,by simp[Ws]⟩
 ·exact⟨.inr ⟨none,rfl,by simp⟩,by simp[Wr]⟩
def LW:List Clear:=[⟨1,0,true⟩]
def MH:List bz:=[⟨1,0,1,2,2⟩]
theorem WE:(BM LW MH 0 sn).isSome=true:=by kernel_rfl
theorem Ig:Sl 24 (cI sn) (.cw 24 (cI sn) (some 3)) := .inr ⟨some 3,rfl,by simp[sn,cI]⟩
theorem QP:Sl 3 (eZ LW) (.cw 3 [.agg [a8 1,aF 0,aB true]] (some 1)) := .inr ⟨some 1,rfl,by simp[LW,eZ]⟩
theorem QQ:Sl 5 (ff MH) (.cw 5 [.agg [a8 1,aF 0,aI 1,aI 2,aI 2]] (some 1)) := .inr ⟨some 1,rfl,by simp[MH,ff]⟩
def w7:List jW:=[⟨⟨1,0,0⟩,0,0⟩,⟨⟨1,0,0⟩,1,0⟩,⟨⟨1,0,0⟩,2,9⟩]
theorem J4:cP (sn.filter (eM ⟨1,0⟩))=w7:=by kernel_rfl
theorem O4 : ∃x,Sl 5 (eE w7) x∧bj env 10 [.agg [.cw 3 [.agg [a8 1,aF 0,aB true]] (some 1),.cw 5 [.agg [a8 1,aF 0,aI 1,aI 2,aI 2]] (some 1),aI 0],.cw 24 (cI sn) (some 3),.agg [a8 1,aF 0]]=some (.tup [x,aI 0]):=by
 obtain⟨y,h,hA⟩:=EK (gr:=0) QP QQ (by simp[LW]) (by simp[MH]) Ig Nx (by simp[sn]) 1 0
 unfold EF at hA
 rw[if_pos ⟨WE,by decide⟩,J4]at hA
 obtain⟨x,hs,rfl⟩:=hA
 exact⟨x,hs,h⟩
theorem N2:bj env 7 [.agg [.cw 3 [.agg [a8 1,aF 0,aB true]] (some 1),.cw 5 [.agg [a8 1,aF 0,aI 1,aI 2,aI 2]] (some 1),aI 0],.cw 24 (cI sn) (some 3),.agg [a8 1,aF 0]]=some (.tup [.agg [aI 1,aI 1,aI 1,aI 0],aI 0]):=by
 have h:=F9 (gr:=0) QP QQ (by simp[LW]) (by simp[MH]) Ig Nx (by simp[sn]) 1 0
 unfold AX at h
 rw[if_pos ⟨WE,by decide⟩,J4]at h
 exact h
theorem aag:cy env.P 22 (some [(0,.v (.int .i64 1)),(1,.v (.int .i64 1)),(2,.v (.int .i64 1)),(3,.v (.int .i64 0))])=some (.agg [aI 1,aI 1,aI 1,aI 0],[]):=by kernel_rfl
theorem Z0(xo yo:Operand):aE env.P .eql 22 xo yo (some (.agg [aI 1,aI 1,aI 1,aI 0])) (some (.agg [aI 1,aI 1,aI 1,aI 0]))=some (aB true,[]):=by kernel_rfl
@[simp] theorem Kv:bj env 12 []=some (aB true):=by
 refine aL (fn:=Tryz.f12) (c:=mB) rfl (by kernel_rfl) (by kernel_rfl) (by kernel_rfl) (by kernel_rfl) ?_;refine rD _ _ fun g=>?_
 obtain⟨x,hs,ht⟩:=O4
 have hc:=N2
 have hp:=Wk
 have hl:=Po
 have hS:=F4 (b:=w7) (y := .cw 5 (eE w7) (some 3)) hs (.inr ⟨some 3,rfl,by simp[w7]⟩) (by simp[w7])
 have he:eE w7=[.agg [a8 1,aF 0,a8 0,aI 0,aI 0],.agg [a8 1,aF 0,a8 0,aI 1,aI 0],.agg [a8 1,aF 0,a8 0,aI 2,aI 9]]:=rfl
 have hlr:=Ig.r
 rw[he]at hS
 simp only[decide_true]at hS
 generalize cI sn=er at *
 simp[ah,ai,ae,af,ad, *,mE,hp,hl,ht,hc,hs.r,hS,aag,Z0]
end Go.Proofs.YtdbiffjdomokfaaGreat
