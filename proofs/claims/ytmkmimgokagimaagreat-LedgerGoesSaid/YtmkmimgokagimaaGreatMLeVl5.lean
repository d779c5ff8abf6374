/-
  What fits counts once: the mathematics. No statement of a seat is proved here.
-/
import Derived.Test.YtmkmimgokagimaaGreatLeSame
import Derived.Test.YtmkmimgokagimaaGreatLeTy
set_option linter.unusedVariables false
set_option linter.unusedSimpArgs false
set_option linter.unusedSectionVars false
set_option linter.unnecessarySimpa false
set_option maxRecDepth 100000
namespace Go.Proofs.YtmkmimgokagimaaGreat
open Go.Ab
theorem F7(us0:List Clear)(qs:List Quota)(gr0:Int)(p:Rcd × AV) : ∀(l:List (Rcd × AV)) (b:Book),ofB us0 qs gr0 b (l++[p])=(ofB us0 qs gr0 b l).bind fun b'=>if iG p.1=true∧pv us0 qs gr0 b' p.1=true then some (doR b' p) else none
 | [],b=>by simp[ofB]
 | q :: l,b=>by
  simp only[List.cons_append,ofB]
  split
  ·exact F7 us0 qs gr0 p l _
  ·rfl
theorem Lo(us:List Clear)(qs:List Quota)(gr:Int)(p:Rcd × AV){l:List (Rcd × AV)}(hl:l.length<2048):ofA us qs gr (l++[p])=(ofA us qs gr l).bind fun b=>if iG p.1=true∧pv us qs gr b p.1=true then some (doR b p) else none:=by
 unfold ofA
 by_cases hp:polB us qs gr=true
 ·rw[if_pos ⟨hp,by simp;omega⟩,if_pos ⟨hp,by omega⟩]
  exact F7 us qs gr p l _
 ·rw[if_neg (fun h=>hp h.1),if_neg (fun h=>hp h.1)]
  rfl
theorem JV{us0:List Clear}{qs:List Quota}{gr0:Int} : ∀(l:List (Rcd × AV)) {b b':Book},ofB us0 qs gr0 b l=some b' →∀p∈l,iG p.1=true
 | [],_,_,_=>by intro p hp;cases hp
 | q :: l,b,b',h=>by
  unfold ofB at h
  split at h
  ·rename_i hc
   intro p hp
   rcases List.mem_cons.1 hp with rfl | hp
   ·exact hc.1
   ·exact JV l h p hp
  ·cases h
theorem OI{us:List Clear}{qs:List Quota}{gr:Int}{l:List (Rcd × AV)}{b:Book}(h:ofA us qs gr l=some b) : ∀p∈l,iG p.1=true:=by
 unfold ofA at h
 split at h
 ·exact JV l h
 ·cases h
theorem Ku{n:Int}(h:IntKind.i64.wrap n=n):n≠IntKind.i64.wrap (n+1):=by
 intro e
 rw[IntKind.wrap_i64]at h e
 omega
theorem once{us0:List Clear}{qs:List Quota}{gr0:Int}{b:Book}{p:Rcd × AV}(his:iG p.1=true)(hf:pv us0 qs gr0 b p.1=true)(hk:p.1.kind≠3):pv us0 qs gr0 (doR b p) p.1=false:=by
 by_cases k1:p.1.kind=1
 ·unfold pv doR
  rw[if_pos k1,if_pos k1]
  unfold Eo tf ue
  simp
 ·by_cases k2:p.1.kind=2
  ·unfold pv at hf ⊢
   unfold doR
   rw[if_neg k1,if_pos k2]at hf ⊢
   rw[if_neg k1,if_pos k2]
   unfold En at hf ⊢
   simp only[Bool.and_eq_true,decide_eq_true_eq]at hf
   have hs:=hf.2.2.1
   have hso:(tf (doOp b p.1.op p.1.code (xb p.2)) p.1.op).s=p.1.op.serial:=by
    unfold tf doOp
    simp only[ym,E5]
    exact hs.symm
   have hw:IntKind.i64.wrap p.1.op.serial=p.1.op.serial:=by
    rw[hs]
    simp only[IntKind.wrap_i64]
    omega
   have hne:=Ku hw
   rw[hso,decide_eq_false hne]
   simp
  ·exfalso
   simp[iG,k1,k2,hk]at his
theorem Mu(c:UInt32):c &&& ~~~(4294967295:UInt32)=0:=by
 rw[show ~~~(4294967295:UInt32)=0 from by decide]
 simp
theorem ID{p:Rcd × AV}(his:iG p.1=true):pI ⟨15,4294967295⟩ p=true:=by
 by_cases k3:p.1.kind=3
 ·simp[pI,k3]
 ·have hv:p.1.op.h.lv≤15:=by
   by_cases k1:p.1.kind=1
   ·unfold iG at his
    rw[if_pos k1]at his
    simp only[Bool.and_eq_true]at his
    have:=his.2.1
    simp[mO]at this
    exact this.1
   ·by_cases k2:p.1.kind=2
    ·unfold iG at his
     rw[if_neg k1,if_pos k2]at his
     simp only[Bool.and_eq_true]at his
     have:=his.2.1
     simp[opB,mO]at this
     exact this.1.1
    ·simp[iG,k1,k2,k3]at his
  simp[pI,leqL,hv,Mu]
theorem IE{l:List (Rcd × AV)}(h : ∀p∈l,iG p.1=true):(l.map twR).filter (pI ⟨15,4294967295⟩)=l.map twR:=by
 rw[List.filter_eq_self]
 intro p hp
 obtain⟨q,hq,rfl⟩:=List.mem_map.1 hp
 exact ID (p:=twR q) (h q hq)
theorem Oj(l:List (Rcd × AV)):rcs (l.map twR)=rcs l:=by
 simp[rcs,twR,Function.comp_def]
end Go.Proofs.YtmkmimgokagimaaGreat
set_option maxRecDepth 1000000
namespace Go.Proofs.YtmkmimgokagimaaGreat
open Go.Ab
noncomputable def gN:Code:=(Tryz.f5.body).getD .skip
def lV:Nat→Option (List Nat):=fun i=>none
def lW:Nat→Bool:=fun i=>false
def aw(g:Nat→AV)(x0 x1 x2:AV)(H:Heap)(Q:AV→Heap→Prop):Prop :=
 doW (Zc H 3 25 x0) fun v1 H1 =>
 doW (Zc H1 5 62 x2) fun v2 H2 =>
 doW (Za true H2 15 36 []) fun v3 H3 =>
 doQ (Zb H3 25 v1) fun v4 =>
 doW (Za true H3 18 13 [v4,x1,(.v (.int .i64 25))]) fun v5 H4 =>
 gQ v5 false (Zd 62 v2 2) fun v6 =>
 gQ v5 false (Zd 38 v6 6) fun v7 =>
 gQ v5 false (Zb H4 36 v7) fun v8 =>
 gQ v5 false (Zh H4 23 36 v8) fun v9 =>
 gQ v5 false (Zq 3 23 300 v9) fun v10 =>
 doQ (Zm v5 v10) fun v11 =>
 gQ v11 false (ZF v3) fun v12 =>
 gQ v11 false (ZC v12) fun v13 =>
 doQ (Zm v11 v13) fun v14 =>
 br (some v14) (
 Q v3 H4) (
 doQ (Zb H4 25 v1) fun v15 =>
 doQ (Zb H4 62 v2) fun v16 =>
 doW (Za true H4 35 23 [v15,x1,v16]) fun v17 H5 =>
 doQ (ZE v17 0) fun v18 =>
 doQ (ZE v17 1) fun v19 =>
 doQ (Zf 42 38 0 v19) fun v20 =>
 br (some v20) (
 gQ v3 true (ZF v18) fun v21 =>
 gQ v3 true (ZC v21) fun v22 =>
 doQ (Zg v3 v22) fun v23 =>
 Q v23 H5) (
 doW (cO env.P false H5 (Ref.mk 0 46 (Heap.gen H5 0 46) 0) (some 26) (some 26) (.v (.slice none 0 0)) x1) fun v21 H6 =>
 doQ (Zb H6 62 v2) fun v22 =>
 doW (Z7 H6 48 26 1 0 v22) fun v23 H7 =>
 doW (Zt H7 49 26 26 v21 v23) fun v24 H8 =>
 doQ (Zb H8 25 v1) fun v25 =>
 doW (Za true H8 52 34 [v25,v24]) fun v26 H9 =>
 doQ (Zj 42 52 0 v26) fun v27 =>
 doQ (Zz 4 53 54 v27 v18) fun v28 =>
 br (some v28) (
 Q (.v (.bool false)) H9) (
 doQ (Zb H9 25 v1) fun v29 =>
 doQ (Zb H9 62 v2) fun v30 =>
 doW (Za true H9 60 23 [v29,v24,v30]) fun v31 H10 =>
 doQ (ZE v31 0) fun v32 =>
 doQ (ZE v31 1) fun v33 =>
 doQ (Zb H10 25 v1) fun v34 =>
 doQ (eB env.P 29 (some [(0,(a8 15)),(1,(a32 4294967295))])) fun v35 =>
 doW (Za true H10 67 19 [v34,v24,v35]) fun v36 H11 =>
 doQ (ZE v36 0) fun v37 =>
 doQ (ZE v36 1) fun v38 =>
 gQ v3 true (ZF v18) fun v39 =>
 gQ v3 true (ZC v39) fun v40 =>
 gQ v3 true (ZF v40) fun v41 =>
 gQ v41 false (ZF v38) fun v42 =>
 gQ v41 false (Zj 42 75 0 v42) fun v43 =>
 gQ v41 false (ZF v43) fun v44 =>
 gQ v44 true (ZF v37) fun v45 =>
 gQ v44 true (ZF v24) fun v46 =>
 gW v44 true H11 (Za true H11 80 22 [v45,v46]) fun v47 H12 =>
 gQ v41 false (Zg v44 v47) fun v48 =>
 gQ v41 false (ZF v48) fun v49 =>
 gQ v49 true (ZF v33) fun v50 =>
 gQ v49 true (Zj 42 83 0 v50) fun v51 =>
 gQ v41 false (Zg v49 v51) fun v52 =>
 gQ v41 false (ZF v52) fun v53 =>
 gQ v53 true (Zd 62 v2 0) fun v54 =>
 gQ v53 true (Zb H12 5 v54) fun v55 =>
 gQ v53 true (ZL 5 88 v55) fun v56 =>
 gQ v53 true (ZF v56) fun v57 =>
 gQ v57 false (ZF v32) fun v58 =>
 gQ v57 false (ZC v58) fun v59 =>
 gQ v53 true (Zm v57 v59) fun v60 =>
 gQ v41 false (Zg v53 v60) fun v61 =>
 gQ v3 true (Zm v41 v61) fun v62 =>
 doQ (Zg v3 v62) fun v63 =>
 Q v63 H12)))
theorem lU(x0 x1 x2:AV)(H:Heap)(Q:AV→Heap→Prop)(h : ∀g,aw g x0 x1 x2 H Q):GoL env Tryz.f5 0 [.code gN] [(0,x0),(1,x1),(2,x2)] H Q:=⟨fun g=>aU (live:=lV) (cut:=lW) (n:=500) (Eq.mp (by kernel_rfl) (h g))⟩
end Go.Proofs.YtmkmimgokagimaaGreat
