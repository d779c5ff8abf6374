/-
  Stores: what is answered of them. No statement of a seat is proved here.
-/
import Derived.Test.YtiidajnodhkidaaGreatStFns
set_option linter.unusedVariables false
set_option linter.unusedSimpArgs false
set_option linter.unusedSectionVars false
set_option linter.unnecessarySimpa false
set_option maxRecDepth 100000
namespace Go.Proofs.YtiidajnodhkidaaGreat
open Go.Ab
attribute [local simp] cx bP bT bS keep thr cF bH bU eF eE cM cE aY dq List.take_of_length_le
def stV(d:Dk)(ro:AV)(g k at':Int):AV := .agg [d.x,aI d.st,aI d.lf,aB d.dd,ro,aI g,aI k,aI at']
def iZ:AV := .agg [aNil,aI 0,aI 0,aB false,aNil,aI 0,aI 0,aI 0]
def Dk.mor(d:Dk):List Rcd × Int:=iG d 0 d.cur.2 2048 2049 0 0
def Dk.all(d:Dk):List Rcd:=d.lst++d.mor.1
def ofE(d:Dk):Int:=if d.may then (if d.st<1 then 2 else if (d.lst.length:Int)=d.cur.2 then (if d.l.any (oddB d (d.cur.2+d.mor.1.length)) then 8 else 0) else 8) else 8
def ofA(d:Dk):AV:=if ofE d=0 then .tup [stV d.tw (outI 24 (bB (runR d.all))) d.cur.1 d.cur.2 d.mor.2,aI 0] else .tup [iZ,aI (ofE d)]
theorem NV(d:Dk):(∀r∈d.lst,r.op.l.length<1000000)∧d.lst.length≤2049:=IA 2049 0 0
theorem NU(d:Dk):(∀r∈d.mor.1,r.op.l.length<1000000)∧d.mor.1.length≤2049:=IA 2049 0 0
theorem s_Of{d:Dk}(hf:d.Fit):limf env 13 [d.val]=some (ofA d):=by
 refine aG (fn:=Tryz.f13) (c:=yu) rfl (by kernel_rfl) (by kernel_rfl) (by kernel_rfl) (by kernel_rfl) ?_;refine DZ _ _ _ fun g=>?_
 have hc:=wK hf
 have hxv:=hf.sl.r
 unfold ofA ofE
 cases hm:d.may with
 | false =>
  rw[hm]at hc
  clear hf hm
  obtain⟨l,x,st,lf,dd⟩:=d
  simp only[Dk.val,dsk,iZ,Bool.false_eq_true,if_false,show ¬(8:Int)=0 by decide]at *
  simp[af,ah,ad,ae,aa, *,k7,Heap.aj]
 | true =>
  rw[hm]at hc
  simp only[if_true]at hc ⊢
  by_cases hst:d.st<1
  ·simp only[if_pos hst,show ¬(2:Int)=0 by decide,if_false]
   clear hf hm
   obtain⟨l,x,st,lf,dd⟩:=d
   simp only[Dk.val,dsk,iZ]at *
   simp[af,ah,ad,ae,aa, *,k7,Heap.aj]
  ·simp only[if_neg hst]
   have hL:=SO hf
   rw[hm,if_pos rfl]at hL
   unfold PS at hL
   by_cases hln:(d.lst.length:Int)=d.cur.2
   ·rw[if_pos hln]at hL
    simp only[if_pos hln]
    have hle:=Dw d
    have hs:=IU hf hm (area:=0) (nu:=d.cur.2) (most:=2048) (by omega) (by omega) (by omega)
    rw[Int.zero_mul,show iG d 0 d.cur.2 2048 2049 0 0=d.mor from rfl]at hs
    have hmo:=NU d
    have hlo:=NV d
    have e1:=IntWalk.i64_in (d.cur.2+d.mor.1.length) (by omega)
    have hSn:=OV hf (many:=d.cur.2+d.mor.1.length) (by omega)
    have so1:=iw 24 (bB (runR d.lst))
    have so2:=iw 24 (bB (runR d.mor.1))
    have so3:=iw 24 (bB (runR d.all))
    have r1:=so1.r
    have r2:=so2.r
    have r3:=so3.r
    rw[jf,pf]at r1 r2 r3
    have hcat:=SU so1 so2 (by rw[pf];omega) (by rw[pf];omega)
    rw[show runR d.lst++runR d.mor.1=runR d.all by simp[runR,Dk.all]]at hcat
    have hT:=xv (st:=d.st) (lf:=d.lf) (dd:=d.dd) hf.sl hf.ok (td d.l (-1) (sU hm)) (by have:=hf.len;omega)
    have ou:=uR hf.sl
    have c1:outI 24 (bB (runR d.lst))=aNil ∨∃es,outI 24 (bB (runR d.lst)) = .isl 24 es none:=by
     unfold outI;split
     ·exact .inl rfl
     ·exact .inr ⟨_,rfl⟩
    have c2:outI 24 (bB (runR d.mor.1))=aNil ∨∃es,outI 24 (bB (runR d.mor.1)) = .isl 24 es none:=by
     unfold outI;split
     ·exact .inl rfl
     ·exact .inr ⟨_,rfl⟩
    have c3:outI 24 (bB (runR d.all))=aNil ∨∃es,outI 24 (bB (runR d.all)) = .isl 24 es none:=by
     unfold outI;split
     ·exact .inl rfl
     ·exact .inr ⟨_,rfl⟩
    generalize outI 24 (bB (runR d.lst))=o1 at *
    generalize outI 24 (bB (runR d.mor.1))=o2 at *
    generalize outI 24 (bB (runR d.all))=o3 at *
    generalize d.mor.2=at' at *
    clear hmo hlo
    generalize d.mor.1.length=ml at *
    generalize d.lst.length=ll0 at *
    generalize d.cur=m at *
    generalize d.l.any (oddB d (m.2+ml))=b at *
    clear hm so1 so2 so3 hln hle
    cases b with
    | true =>
     simp only[if_true,show ¬(8:Int)=0 by decide,if_false]
     clear hf hT ou hcat r3 c3
     obtain⟨l,x,st,lf,dd⟩:=d
     simp only[Dk.val,dsk,iZ]at *
     simp[af,ah,ad,ae,aa, *,k7,Heap.aj]
    | false =>
     simp only[Bool.false_eq_true,if_false,if_true]
     clear hf
     obtain⟨l,x,st,lf,dd⟩:=d
     simp only[Dk.val,Dk.tw,dsk,iZ,stV]at *
     generalize twA x l=Y at *
     clear c1 c2
     rcases ou with ⟨rfl,h3⟩ | rfl | ⟨rfl,h3⟩<;>simp only[vw]<;>rcases c3 with rfl | ⟨es,rfl⟩<;>simp[af,ah,ad,ae,aa, *,k7,Heap.aj]
   ·rw[if_neg hln]at hL
    simp only[if_neg hln,show ¬(8:Int)=0 by decide,if_false]
    clear hf hm hln
    obtain⟨l,x,st,lf,dd⟩:=d
    simp only[Dk.val,dsk,iZ]at *
    simp[af,ah,ad,ae,aa, *,k7,Heap.aj]
end Go.Proofs.YtiidajnodhkidaaGreat
