/-
  The chapter's examples. No statement of a seat is proved here.
-/
import Derived.Test.YtdbiffjdomokfaaGreatMAuSame
import Derived.Test.YtdbiffjdomokfaaGreatAuVc11
set_option linter.unusedVariables false
set_option linter.unusedSimpArgs false
set_option linter.unusedSectionVars false
set_option maxRecDepth 100000
namespace Go.Proofs.YtdbiffjdomokfaaGreat
open Go.Ab
attribute [local simp] bD bp bl bC bB cV lj bP bt bA dc db cg bR aV cm List.take_of_length_le
@[simp] theorem abg:bj env 11 []=some (.agg [a8 1,aG 0,a8 0]):=by
 refine aK (fn:=Tryz.f11) (c:=pw) rfl (by kernel_rfl) (by kernel_rfl) (by kernel_rfl) (by kernel_rfl) ?_;refine uT _ _ fun g=>?_
 simp[ah,ai,ae,af,ad, *,pz]
theorem W0:bj env 8 []=some (.agg [.cw 3 [.agg [a8 1,aG 0,aB true]] (some 1),.cw 5 [.agg [a8 1,aG 0,aI 1,aI 2,aI 2]] (some 1),aI 0]):=by
 refine aK (fn:=Tryz.f8) (c:=pv) rfl (by kernel_rfl) (by kernel_rfl) (by kernel_rfl) (by kernel_rfl) ?_;refine uS _ _ fun g=>?_
 simp[ah,ai,ae,af,ad, *,py]
theorem mk2:u4 env.P ⟨0,18,0,0⟩ 48 (some (aI 2)) (some (aI 2))=some (.cM ⟨0,18,0,0⟩ 0 2 none,[⟨1,[aR 0,aR 0],true,false⟩]):=by kernel_rfl
theorem mk1:u4 env.P ⟨0,18,0,0⟩ 48 (some (aI 1)) (some (aI 1))=some (.cM ⟨0,18,0,0⟩ 0 1 none,[⟨1,[aR 0],true,false⟩]):=by kernel_rfl
def NS(s c m:Int)(x:AV)(code:Int):AV :=
 .agg [a8 2,aI 0,a8 1,a8 1,aG 0,a8 0,aI s,a8 1,aG 0,a8 0,aI c,aI m,a8 0,aG 0,a8 0,aI 0,a8 0,aG 0,x,aI code,aI 0,a8 0,aG 0,aB false]
theorem SN:bj env 24 [aI 1,aI 1,aI 2,aI 0]=some (NS 1 1 2 (.cw 1 (rows [0,0]) none) 0):=by
 refine aK (fn:=Tryz.f24) (c:=kG) rfl (by kernel_rfl) (by kernel_rfl) (by kernel_rfl) (by kernel_rfl) ?_;refine nE _ _ _ _ _ _ fun g=>?_
 simp[ah,ai,ae,af,ad, *,kI,mk2]
 rfl
theorem SM:bj env 24 [aI 2,aI 3,aI 1,aI 9]=some (NS 2 3 1 (.cw 1 (rows [0]) none) 9):=by
 refine aK (fn:=Tryz.f24) (c:=kG) rfl (by kernel_rfl) (by kernel_rfl) (by kernel_rfl) (by kernel_rfl) ?_;refine nE _ _ _ _ _ _ fun g=>?_
 simp[ah,ai,ae,af,ad, *,kI,mk1]
 rfl
def Xa:gA:=⟨1,0,⟨0,⟨1,0,0⟩,0,⟨⟨⟨0,0,0⟩,0⟩,0⟩,⟨⟨0,0,0⟩,0⟩,⟨0,0⟩,[]⟩,0,0,0,0,false⟩
def W9:gA:=⟨2,0,⟨1,⟨1,0,0⟩,1,⟨⟨⟨1,0,0⟩,1⟩,2⟩,⟨⟨0,0,0⟩,0⟩,⟨0,0⟩,[0,0]⟩,0,0,0,0,false⟩
def W8:gA:=⟨2,0,⟨1,⟨1,0,0⟩,2,⟨⟨⟨1,0,0⟩,3⟩,1⟩,⟨⟨0,0,0⟩,0⟩,⟨0,0⟩,[0]⟩,9,0,0,0,false⟩
def sM:List (gA × AV):=[(Xa,cP),(W9,.cw 1 (rows [0,0]) none),(W8,.cw 1 (rows [0]) none)]
theorem P7:bj env 9 []=some (.cw 24 (bU sM) (some 3)):=by
 refine aK (fn:=Tryz.f9) (c:=oa) rfl (by kernel_rfl) (by kernel_rfl) (by kernel_rfl) (by kernel_rfl) ?_;refine tj _ _ fun g=>?_
 have h1:=SN
 have h2:=SM
 unfold NS at h1 h2
 simp[ah,ai,ae,af,ad, *,ov,h1,h2]
 rfl
theorem Ol : ∀p∈sM,uJ p:=by
 intro p hp
 simp only[sM,List.mem_cons,List.not_mem_nil,or_false]at hp
 rcases hp with rfl | rfl | rfl
 ·exact⟨.inl ⟨rfl,rfl⟩,by simp[Xa]⟩
 ·exact⟨.inr ⟨none,rfl,by simp⟩,by simp[W9]⟩
 ·exact⟨.inr ⟨none,rfl,by simp⟩,by simp[W8]⟩
def MM:List Clear:=[⟨1,0,true⟩]
def NC:List bu:=[⟨1,0,1,2,2⟩]
theorem Xl:(yE MM NC 0 sM).isSome=true:=by kernel_rfl
theorem IY:Sl 24 (bU sM) (.cw 24 (bU sM) (some 3)) := .inr ⟨some 3,rfl,by simp[sM,bU]⟩
theorem Rz:Sl 3 (eW MM) (.cw 3 [.agg [a8 1,aG 0,aB true]] (some 1)) := .inr ⟨some 1,rfl,by simp[MM,eW]⟩
theorem RA:Sl 5 (eY NC) (.cw 5 [.agg [a8 1,aG 0,aI 1,aI 2,aI 2]] (some 1)) := .inr ⟨some 1,rfl,by simp[NC,eY]⟩
def xG:List m0:=[⟨⟨1,0,0⟩,0,0⟩,⟨⟨1,0,0⟩,1,0⟩,⟨⟨1,0,0⟩,2,9⟩]
theorem KR:fe (sM.filter (cN ⟨1,0⟩))=xG:=by kernel_rfl
theorem PO : ∃x,Sl 5 (gN xG) x∧bj env 10 [.agg [.cw 3 [.agg [a8 1,aG 0,aB true]] (some 1),.cw 5 [.agg [a8 1,aG 0,aI 1,aI 2,aI 2]] (some 1),aI 0],.cw 24 (bU sM) (some 3),.agg [a8 1,aG 0]]=some (.tup [x,aI 0]):=by
 obtain⟨y,h,hA⟩:=ym (gr:=0) Rz RA (by simp[MM]) (by simp[NC]) IY Ol (by simp[sM]) 1 0
 unfold zI at hA
 rw[if_pos ⟨Xl,by decide⟩,KR]at hA
 obtain⟨x,hs,rfl⟩:=hA
 exact⟨x,hs,h⟩
theorem OQ:bj env 7 [.agg [.cw 3 [.agg [a8 1,aG 0,aB true]] (some 1),.cw 5 [.agg [a8 1,aG 0,aI 1,aI 2,aI 2]] (some 1),aI 0],.cw 24 (bU sM) (some 3),.agg [a8 1,aG 0]]=some (.tup [.agg [aI 1,aI 1,aI 1,aI 0],aI 0]):=by
 have h:=B0 (gr:=0) Rz RA (by simp[MM]) (by simp[NC]) IY Ol (by simp[sM]) 1 0
 unfold Bp at h
 rw[if_pos ⟨Xl,by decide⟩,KR]at h
 exact h
theorem aa4:cK env.P 22 (some [(0,.v (.int .i64 1)),(1,.v (.int .i64 1)),(2,.v (.int .i64 1)),(3,.v (.int .i64 0))])=some (.agg [aI 1,aI 1,aI 1,aI 0],[]):=by kernel_rfl
theorem aaN(xo yo:Operand):aE env.P .eql 22 xo yo (some (.agg [aI 1,aI 1,aI 1,aI 0])) (some (.agg [aI 1,aI 1,aI 1,aI 0]))=some (aB true,[]):=by kernel_rfl
@[simp] theorem Lk:bj env 12 []=some (aB true):=by
 refine aK (fn:=Tryz.f12) (c:=mF) rfl (by kernel_rfl) (by kernel_rfl) (by kernel_rfl) (by kernel_rfl) ?_;refine rU _ _ fun g=>?_
 obtain⟨x,hs,ht⟩:=PO
 have hc:=OQ
 have hp:=W0
 have hl:=P7
 have hS:=yp (b:=xG) (y := .cw 5 (gN xG) (some 3)) hs (.inr ⟨some 3,rfl,by simp[xG]⟩) (by simp[xG])
 have he:gN xG=[.agg [a8 1,aG 0,a8 0,aI 0,aI 0],.agg [a8 1,aG 0,a8 0,aI 1,aI 0],.agg [a8 1,aG 0,a8 0,aI 2,aI 9]]:=rfl
 have hlr:=IY.r
 rw[he]at hS
 simp only[decide_true]at hS
 generalize bU sM=er at *
 simp[ah,ai,ae,af,ad, *,mI,hp,hl,ht,hc,hs.r,hS,aa4,aaN]
end Go.Proofs.YtdbiffjdomokfaaGreat
