/-
  What is to be shown of each function, computed from its code. No statement of a seat is proved here.
-/
import Derived.Test.YtiidajnodhkidaaGreatStTy
set_option linter.unusedVariables false
set_option maxRecDepth 1000000
namespace Go.Proofs.YtiidajnodhkidaaGreat
open Go.Ab
noncomputable def rb:Code:=(Tryz.f82.body).getD .skip
def JK:Nat→Option (List Nat):=fun i=>none
def Ky:Nat→Bool:=fun i=>false
def pg(g:Nat→AV)(x0:AV)(H:Heap)(Q:AV→Heap→Prop):Prop :=
 doW (Zd H 1 45 x0) fun v1 H1 =>
 doQ (Zb H1 45 v1) fun v2 =>
 doW (Za true H1 16 122 [v2]) fun v3 H2 =>
 doQ (Zc 30 17 0 v3) fun v4 =>
 br (some v4) (
 Q (.tup [(.v (.slice none 0 0)),v3]) H2) (
 doQ (Zh 45 v1 1) fun v5 =>
 doQ (Zb H2 38 v5) fun v6 =>
 doW (Za true H2 23 81 [v6]) fun v7 H3 =>
 doQ (Zx v7 0) fun v8 =>
 doQ (Zx v7 1) fun v9 =>
 doQ (Zh 45 v1 3) fun v10 =>
 doQ (Zh 42 v10 0) fun v11 =>
 doQ (Zb H3 40 v11) fun v12 =>
 doW (Za true H3 30 123 [v12]) fun v13 H4 =>
 doQ (Zx v13 0) fun v14 =>
 doQ (Zx v13 1) fun v15 =>
 doQ (Zh 45 v1 0) fun v16 =>
 doQ (Zb H4 5 v16) fun v17 =>
 doW (Zy H4 35 76 1 0 v17) fun v18 H5 =>
 doQ (Zh 45 v1 2) fun v19 =>
 doQ (Zb H5 3 v19) fun v20 =>
 doQ (Z9 3 38 v20) fun v21 =>
 doQ (Zp H5 40 3 5 v21) fun v22 =>
 doQ (Zh 45 v1 2) fun v23 =>
 doQ (Zb H5 3 v23) fun v24 =>
 doQ (ZX 3 42 v24) fun v25 =>
 doQ (Zp H5 44 3 5 v25) fun v26 =>
 doQ (Zh 45 v1 2) fun v27 =>
 doQ (Zb H5 3 v27) fun v28 =>
 doQ (Zp H5 47 3 5 v28) fun v29 =>
 doW (ik env.P false true H5 (Ref.mk 0 48 (Heap.gen H5 0 48) 0) 76 3 (some [(0,v22),(1,v26),(2,v29)])) fun v30 H6 =>
 doQ (Zh 45 v1 3) fun v31 =>
 doQ (Zh 42 v31 1) fun v32 =>
 doQ (Zb H6 3 v32) fun v33 =>
 doQ (Zp H6 53 3 5 v33) fun v34 =>
 doW (Zy H6 54 76 1 0 v34) fun v35 H7 =>
 doW (ik env.P false true H7 (Ref.mk 0 55 (Heap.gen H7 0 55) 0) 122 5 (some [(0,v18),(1,v8),(2,v30),(3,v14),(4,v35)])) fun v36 H8 =>
 doW (Za true H8 56 108 [v36]) fun v37 H9 =>
 doQ (Zh 45 v1 0) fun v38 =>
 doQ (Zb H9 5 v38) fun v39 =>
 doQ (ZT 5 58 v39) fun v40 =>
 br (some v40) (
 doW (ZN H9 61 76 13) fun v41 H10 =>
 doQ (Zh 45 v1 4) fun v42 =>
 doQ (Zb H10 40 v42) fun v43 =>
 doQ (ZB 40) fun v44 =>
 doQ (Zz 40 63 64 v43 v44) fun v45 =>
 br (some v45) (
 doQ (Zh 45 v1 4) fun v46 =>
 doQ (Zb H10 40 v46) fun v47 =>
 doW (Za true H10 69 123 [v47]) fun v48 H11 =>
 doQ (Zx v48 0) fun v49 =>
 doQ (Zx v48 1) fun v50 =>
 doQ (Zh 45 v1 6) fun v51 =>
 doQ (Zb H11 43 v51) fun v52 =>
 doW (Za true H11 75 124 [v52]) fun v53 H12 =>
 doQ (Zx v53 0) fun v54 =>
 doQ (Zx v53 1) fun v55 =>
 doW (ik env.P false true H12 (Ref.mk 0 81 (Heap.gen H12 0 81) 0) 122 3 (some [(0,v37),(1,v49),(2,v54)])) fun v56 H13 =>
 doW (Za true H13 82 108 [v56]) fun v57 H14 =>
 Q (.tup [v57,(.v (.int .i64 0))]) H14) (
 doQ (Zh 45 v1 6) fun v46 =>
 doQ (Zb H10 43 v46) fun v47 =>
 doW (Za true H10 75 124 [v47]) fun v48 H11 =>
 doQ (Zx v48 0) fun v49 =>
 doQ (Zx v48 1) fun v50 =>
 doW (ik env.P false true H11 (Ref.mk 0 81 (Heap.gen H11 0 81) 0) 122 3 (some [(0,v37),(1,v41),(2,v49)])) fun v51 H12 =>
 doW (Za true H12 82 108 [v51]) fun v52 H13 =>
 Q (.tup [v52,(.v (.int .i64 0))]) H13)) (
 doQ (ZW 5 58 v39) fun v41 =>
 br (some v41) (
 doQ (Zh 45 v1 5) fun v42 =>
 doQ (Zb H9 36 v42) fun v43 =>
 doQ (Z0 38 0 v43) fun v44 =>
 doW (Za true H9 89 81 [v44]) fun v45 H10 =>
 doQ (Zx v45 0) fun v46 =>
 doQ (Zx v45 1) fun v47 =>
 doQ (cu env.P (Heap.get H10) 76 (some v46) (some none) (oi (.v (.int .i64 5))) (some none)) fun v48 =>
 doW (Zt H10 95 76 76 v37 v48) fun v49 H11 =>
 Q (.tup [v49,(.v (.int .i64 0))]) H11) (
 Q (.tup [v37,(.v (.int .i64 0))]) H9)))
theorem tk(x0:AV)(H:Heap)(Q:AV→Heap→Prop)(h : ∀g,pg g x0 H Q):GoL env Tryz.f82 0 [.code rb] [(0,x0)] H Q:=⟨fun g=>bn (live:=JK) (cut:=Ky) (n:=500) (Eq.mp (by kernel_rfl) (h g))⟩
noncomputable def DL:Code:=(Tryz.f176.body).getD .skip
def JL:Nat→Option (List Nat):=fun i=>none
def Kz:Nat→Bool:=fun i=>false
def DN(g:Nat→AV)(x0:AV)(H:Heap)(Q:AV→Heap→Prop):Prop :=
 doW (Zf H 2 45) fun v1 H1 =>
 doQ (Z0 252 0 x0) fun v2 =>
 doW (Zd H1 17 252 v2) fun v3 H2 =>
 doQ (tH (.func 194) (some [v3]) (some [])) fun v4 =>
 doQ (tH (.func 195) (some [v3]) (some [])) fun v5 =>
 doW (Z5 H2 23 v4) fun v6 H3 =>
 doQ (Zv H3 76 v6 0) fun v7 =>
 doQ (Zb H3 5 v7) fun v8 =>
 doQ (Zh 45 v1 0) fun v9 =>
 doW (Zj H3 5 v9 v8) fun v10 H4 =>
 doW (cl env true (limf env) (limt env 0) H4 (Ref.mk 0 29 (Heap.gen H4 0 29) 0) (some v4) [(.v (.int .i64 6))]) fun v11 H5 =>
 doW (Za true H5 30 175 [v11]) fun v12 H6 =>
 doQ (Zx v12 0) fun v13 =>
 doQ (Zx v12 1) fun v14 =>
 doW (Zf H6 8 38) fun v15 H7 =>
 doW (Zj H7 38 v15 v13) fun v16 H8 =>
 doW (cl env true (limf env) (limt env 0) H8 (Ref.mk 0 34 (Heap.gen H8 0 34) 0) (some v4) [(.v (.int .i64 3))]) fun v17 H9 =>
 doQ (Zb H9 38 v15) fun v18 =>
 doQ (Zv H9 76 v17 0) fun v19 =>
 doQ (Zb H9 5 v19) fun v20 =>
 doQ (Zp H9 39 5 3 v20) fun v21 =>
 doQ (Ye 3 39 v21) fun v22 =>
 doQ (Zv H9 76 v17 1) fun v23 =>
 doQ (Zb H9 5 v23) fun v24 =>
 doQ (Zp H9 44 5 3 v24) fun v25 =>
 doQ (ZL 3 44 v25) fun v26 =>
 doQ (ZM 3 40 45 v22 v26) fun v27 =>
 doQ (Zv H9 76 v17 2) fun v28 =>
 doQ (Zb H9 5 v28) fun v29 =>
 doQ (Zp H9 50 5 3 v29) fun v30 =>
 doQ (ZM 3 46 50 v27 v30) fun v31 =>
 doQ (Zh 45 v1 1) fun v32 =>
 doW (Zj H9 38 v32 v18) fun v33 H10 =>
 doQ (Zh 45 v1 2) fun v34 =>
 doW (Zj H10 3 v34 v31) fun v35 H11 =>
  od [(v17,v32),(v19,v32),(v20,v32),(v17,v32),(v23,v32),(v24,v32),(v17,v32),(v28,v32),(v29,v32)] [v32,v34] [] H11 ∧
 (doW (cl env true (limf env) (limt env 0) H11 (Ref.mk 0 55 (Heap.gen H11 0 55) 0) (some v5) [(.v (.bool false))]) fun v36 H12 =>
 doQ (Zh 45 v1 3) fun v37 =>
 doQ (Zh 42 v37 0) fun v38 =>
 doW (Zj H12 40 v38 v36) fun v39 H13 =>
 doW (Z5 H13 59 v4) fun v40 H14 =>
 doQ (Zv H14 76 v40 0) fun v41 =>
 doQ (Zb H14 5 v41) fun v42 =>
 doQ (Zp H14 62 5 3 v42) fun v43 =>
 doQ (Zh 45 v1 3) fun v44 =>
 doQ (Zh 42 v44 1) fun v45 =>
 doW (Zj H14 3 v45 v43) fun v46 H15 =>
 doQ (Z6 v3) fun v47 =>
 doQ (Zh 252 v47 2) fun v48 =>
 doQ (Zb H15 4 v48) fun v49 =>
 gQ v49 false (ZI v14) fun v50 =>
 gQ v49 false (Zc 30 70 0 v50) fun v51 =>
 doQ (Zn v49 v51) fun v52 =>
 gQ v52 false (Zh 45 v1 3) fun v53 =>
 gQ v52 false (Zh 42 v53 1) fun v54 =>
 gQ v52 false (Zb H15 3 v54) fun v55 =>
 gQ v52 false (Zr 3 76 64 v55) fun v56 =>
 doQ (Zn v52 v56) fun v57 =>
 br (some v57) (
 doQ (ZB 45) fun v58 =>
 doW (Zj H15 45 v1 v58) fun v59 H16 =>
 doQ (ZK H16 v1 45) fun v60 =>
 Q (.tup [v60,(.v (.int .i64 0)),(.v (.int .i64 8))]) H16) (
 doQ (Zh 45 v1 0) fun v58 =>
 doQ (Zb H15 5 v58) fun v59 =>
 doQ (ZT 5 81 v59) fun v60 =>
 br (some v60) (
 doW (cl env true (limf env) (limt env 0) H15 (Ref.mk 0 85 (Heap.gen H15 0 85) 0) (some v5) [(.v (.bool true))]) fun v61 H16 =>
 doQ (Zh 45 v1 4) fun v62 =>
 doW (Zj H16 40 v62 v61) fun v63 H17 =>
 doQ (Zh 45 v1 3) fun v64 =>
 doQ (Zh 42 v64 1) fun v65 =>
 doQ (Zb H17 3 v65) fun v66 =>
 doQ (ZH 3 4 91 v66) fun v67 =>
 doW (ZA H17 93 v4 v67) fun v68 H18 =>
 doW (Za true H18 94 196 [v68]) fun v69 H19 =>
 doQ (Zx v69 0) fun v70 =>
 doQ (Zx v69 1) fun v71 =>
 doQ (Z6 v3) fun v72 =>
 doQ (Zh 252 v72 2) fun v73 =>
 doQ (Zb H19 4 v73) fun v74 =>
 gQ v74 false (ZI v71) fun v75 =>
 gQ v74 false (Zc 30 104 0 v75) fun v76 =>
 doQ (Zn v74 v76) fun v77 =>
 doQ (Zh 45 v1 6) fun v78 =>
 doW (Zj H19 43 v78 v70) fun v79 H20 =>
 doQ (Z6 v3) fun v80 =>
 doQ (Zh 252 v80 2) fun v81 =>
 doW (Zj H20 4 v81 v77) fun v82 H21 =>
 doQ (Z6 v3) fun v83 =>
 doQ (Zh 252 v83 2) fun v84 =>
 doQ (Zb H21 4 v84) fun v85 =>
 gQ v85 false (Zb H21 45 v1) fun v86 =>
 gW v85 false H21 (Za true H21 141 122 [v86]) fun v87 H22 =>
 gQ v85 false (Zc 30 141 0 v87) fun v88 =>
 doQ (Zn v85 v88) fun v89 =>
 br (some v89) (
 doQ (ZB 45) fun v90 =>
 doW (Zj H22 45 v1 v90) fun v91 H23 =>
 doQ (ZK H23 v1 45) fun v92 =>
 Q (.tup [v92,(.v (.int .i64 0)),(.v (.int .i64 8))]) H23) (
 doQ (Zb H22 45 v1) fun v90 =>
 doQ (Z6 v3) fun v91 =>
 doQ (Zh 252 v91 1) fun v92 =>
 doQ (Zb H22 3 v92) fun v93 =>
 doW (Zj H22 45 v1 v90) fun v94 H23 =>
  od [(v92,v1)] [v1] [] H23 ∧
 (doQ (ZK H23 v1 45) fun v95 =>
 Q (.tup [v95,v93,(.v (.int .i64 0))]) H23))) (
 doQ (ZW 5 81 v59) fun v61 =>
 br (some v61) (
 doW (cl env true (limf env) (limt env 0) H15 (Ref.mk 0 114 (Heap.gen H15 0 114) 0) (some v4) [(.v (.int .i64 5))]) fun v62 H16 =>
 doW (Za true H16 115 197 [v62]) fun v63 H17 =>
 doW (ik env.P false true H17 (Ref.mk 0 116 (Heap.gen H17 0 116) 0) 76 1 (some [(0,(a8 0))])) fun v64 H18 =>
 doW (Zt H18 117 76 76 v63 v64) fun v65 H19 =>
 doW (Za true H19 118 175 [v65]) fun v66 H20 =>
 doQ (Zx v66 0) fun v67 =>
 doQ (Zx v66 1) fun v68 =>
 doW (Zf H20 13 38) fun v69 H21 =>
 doW (Zj H21 38 v69 v67) fun v70 H22 =>
 doQ (Zh 38 v69 0) fun v71 =>
 doQ (Zb H22 36 v71) fun v72 =>
 doQ (Z6 v3) fun v73 =>
 doQ (Zh 252 v73 2) fun v74 =>
 doQ (Zb H22 4 v74) fun v75 =>
 gQ v75 false (ZI v68) fun v76 =>
 gQ v75 false (Zc 30 129 0 v76) fun v77 =>
 doQ (Zn v75 v77) fun v78 =>
 doQ (Zh 45 v1 5) fun v79 =>
 doW (Zj H22 36 v79 v72) fun v80 H23 =>
 doQ (Z6 v3) fun v81 =>
 doQ (Zh 252 v81 2) fun v82 =>
 doW (Zj H23 4 v82 v78) fun v83 H24 =>
 doQ (Z6 v3) fun v84 =>
 doQ (Zh 252 v84 2) fun v85 =>
 doQ (Zb H24 4 v85) fun v86 =>
 gQ v86 false (Zb H24 45 v1) fun v87 =>
 gW v86 false H24 (Za true H24 141 122 [v87]) fun v88 H25 =>
 gQ v86 false (Zc 30 141 0 v88) fun v89 =>
 doQ (Zn v86 v89) fun v90 =>
 br (some v90) (
 doQ (ZB 45) fun v91 =>
 doW (Zj H25 45 v1 v91) fun v92 H26 =>
 doQ (ZK H26 v1 45) fun v93 =>
 Q (.tup [v93,(.v (.int .i64 0)),(.v (.int .i64 8))]) H26) (
 doQ (Zb H25 45 v1) fun v91 =>
 doQ (Z6 v3) fun v92 =>
 doQ (Zh 252 v92 1) fun v93 =>
 doQ (Zb H25 3 v93) fun v94 =>
 doW (
  au env.P H25 45 (some v1) (some v91)) fun v95 H26 =>
  od [(v93,v1)] [v1] [] H26 ∧
 (doQ (ZK H26 v1 45) fun v96 =>
 Q (.tup [v96,v94,(.v (.int .i64 0))]) H26))) (
 doQ (Z6 v3) fun v62 =>
 doQ (Zh 252 v62 2) fun v63 =>
 doQ (Zb H15 4 v63) fun v64 =>
 gQ v64 false (Zb H15 45 v1) fun v65 =>
 gW v64 false H15 (Za true H15 141 122 [v65]) fun v66 H16 =>
 gQ v64 false (Zc 30 141 0 v66) fun v67 =>
 doQ (Zn v64 v67) fun v68 =>
 br (some v68) (
 doQ (ZB 45) fun v69 =>
 doW (Zj H16 45 v1 v69) fun v70 H17 =>
 doQ (ZK H17 v1 45) fun v71 =>
 Q (.tup [v71,(.v (.int .i64 0)),(.v (.int .i64 8))]) H17) (
 doQ (Zb H16 45 v1) fun v69 =>
 doQ (Z6 v3) fun v70 =>
 doQ (Zh 252 v70 1) fun v71 =>
 doQ (Zb H16 3 v71) fun v72 =>
 doW (
  au env.P H16 45 (some v1) (some v69)) fun v73 H17 =>
  od [(v71,v1)] [v1] [] H17 ∧
 (doQ (ZK H17 v1 45) fun v74 =>
 Q (.tup [v74,v72,(.v (.int .i64 0))]) H17))))))
theorem Ig(x0:AV)(H:Heap)(Q:AV→Heap→Prop)(h : ∀g,DN g x0 H Q):GoL env Tryz.f176 0 [.code DL] [(0,x0)] H Q:=⟨fun g=>bn (live:=JL) (cut:=Kz) (n:=500) (Eq.mp (by kernel_rfl) (h g))⟩
noncomputable def ep:Code:=(Tryz.f108.body).getD .skip
noncomputable def dp:List Item:=(cb 3 400 [.code ep]).getD []
noncomputable def dg:List Item:=(cb 11 400 [.code ep]).getD []
def fI:Nat→Option (List Nat):=fun i=>cond (Nat.beq i 3) (some [11,3,9,0,10]) (cond (Nat.beq i 11) (some [27,6,25,26]) (none))
def fJ:Nat→Bool:=fun i=>false
def iT(g:Nat→AV)(x0:AV)(H:Heap)(Q:AV→Heap→Prop):Prop :=
 doQ (Ze H 10 122 x0) fun v1 =>
  GoL env Tryz.f108 0 dp [(11,(.v (.int .i64 0))),(3,(.v (.int .i64 0))),(9,x0),(0,x0),(10,v1)] H Q
theorem me(x0:AV)(H:Heap)(Q:AV→Heap→Prop)(h : ∀g,iT g x0 H Q):GoL env Tryz.f108 0 [.code ep] [(0,x0)] H Q:=⟨fun g=>bn (live:=fI) (cut:=fJ) (n:=500) (Eq.mp (by kernel_rfl) (h g))⟩
def fg(g:Nat→AV)(x11 x3 x9 x0 x10:AV)(H:Heap)(Q:AV→Heap→Prop):Prop :=
 doQ (Zq 3 11 10 x11 x10) fun v1 =>
 br (some v1) (
 doQ (Zu H 122 x9 x11) fun v2 =>
 doQ (Zb H 76 v2) fun v3 =>
 doQ (Ze H 17 76 v3) fun v4 =>
 doQ (Zs 3 15 17 x3 v4) fun v5 =>
 doQ (Zm 3 19 0 v5) fun v6 =>
 br (some v6) (
 doQ (Z3 9) fun v7 =>
 doQ (none) fun v8 =>
 doQ (Zg 3 11 1 x11) fun v9 =>
  GoL env Tryz.f108 0 dp [(11,v9),(3,v5),(9,x9),(0,x0),(10,x10)] H Q) (
 doQ (Zg 3 11 1 x11) fun v7 =>
  GoL env Tryz.f108 0 dp [(11,v7),(3,v5),(9,x9),(0,x0),(10,x10)] H Q)) (
 doW (Za true H 24 146 [(.v (.slice none 0 0)),x3]) fun v2 H1 =>
 doQ (Ze H1 26 122 x0) fun v3 =>
  GoL env Tryz.f108 0 dg [(27,(.v (.int .i64 0))),(6,v2),(25,x0),(26,v3)] H1 Q)
theorem gX(x11 x3 x9 x0 x10:AV)(H:Heap)(Q:AV→Heap→Prop)(h : ∀g,fg g x11 x3 x9 x0 x10 H Q):GoL env Tryz.f108 0 dp [(11,x11),(3,x3),(9,x9),(0,x0),(10,x10)] H Q:=cV fun g=>bn (live:=fI) (cut:=fJ) (n:=500) (Eq.mp (by kernel_rfl) (h g))
def dM(g:Nat→AV)(x27 x6 x25 x26:AV)(H:Heap)(Q:AV→Heap→Prop):Prop :=
 doQ (Zq 3 27 26 x27 x26) fun v1 =>
 br (some v1) (
 doQ (Zu H 122 x25 x27) fun v2 =>
 doQ (Zb H 76 v2) fun v3 =>
 doW (Zt H 33 76 76 x6 v3) fun v4 H1 =>
 doQ (Zg 3 27 1 x27) fun v5 =>
  GoL env Tryz.f108 0 dg [(27,v5),(6,v4),(25,x25),(26,x26)] H1 Q) (
 Q x6 H)
theorem gT(x27 x6 x25 x26:AV)(H:Heap)(Q:AV→Heap→Prop)(h : ∀g,dM g x27 x6 x25 x26 H Q):GoL env Tryz.f108 0 dg [(27,x27),(6,x6),(25,x25),(26,x26)] H Q:=cV fun g=>bn (live:=fI) (cut:=fJ) (n:=500) (Eq.mp (by kernel_rfl) (h g))
noncomputable def qZ:Code:=(Tryz.f124.body).getD .skip
noncomputable def lz:List Item:=(cb 6 400 [.code qZ]).getD []
def vC:Nat→Option (List Nat):=fun i=>cond (Nat.beq i 6) (some [15,5,13,14]) (none)
def vJ:Nat→Bool:=fun i=>false
def rj(g:Nat→AV)(x0:AV)(H:Heap)(Q:AV→Heap→Prop):Prop :=
 doW (Za true H 9 159 [x0]) fun v1 H1 =>
 doQ (Zc 30 10 0 v1) fun v2 =>
 br (some v2) (
 Q (.tup [(.v (.slice none 0 0)),v1]) H1) (
 doQ (Ze H1 14 43 x0) fun v3 =>
  GoL env Tryz.f124 0 lz [(15,(.v (.int .i64 0))),(5,(.v (.slice none 0 0))),(13,x0),(14,v3)] H1 Q)
theorem Cl(x0:AV)(H:Heap)(Q:AV→Heap→Prop)(h : ∀g,rj g x0 H Q):GoL env Tryz.f124 0 [.code qZ] [(0,x0)] H Q:=⟨fun g=>bn (live:=vC) (cut:=vJ) (n:=500) (Eq.mp (by kernel_rfl) (h g))⟩
def lD(g:Nat→AV)(x15 x5 x13 x14:AV)(H:Heap)(Q:AV→Heap→Prop):Prop :=
 doQ (Zq 3 15 14 x15 x14) fun v1 =>
 br (some v1) (
 doQ (Zu H 43 x13 x15) fun v2 =>
 doQ (Zb H 21 v2) fun v3 =>
 doQ (qBin env.P .shr 21 (Operand.tmp 20) (.const (.int .u64 24)) (some v3) (some (.v (.int .u64 24)))) fun v4 =>
 doQ (Zp H 22 21 5 v4) fun v5 =>
 doQ (Z9 21 23 v3) fun v6 =>
 doQ (Zp H 25 21 5 v6) fun v7 =>
 doQ (ZX 21 26 v3) fun v8 =>
 doQ (Zp H 28 21 5 v8) fun v9 =>
 doQ (Zp H 30 21 5 v3) fun v10 =>
 doW (ik env.P false true H (Ref.mk 0 31 (Heap.gen H 0 31) 0) 76 4 (some [(0,v5),(1,v7),(2,v9),(3,v10)])) fun v11 H1 =>
 doW (Zt H1 32 76 76 x5 v11) fun v12 H2 =>
 doQ (Zg 3 15 1 x15) fun v13 =>
  GoL env Tryz.f124 0 lz [(15,v13),(5,v12),(13,x13),(14,x14)] H2 Q) (
 Q (.tup [x5,(.v (.int .i64 0))]) H)
theorem rV(x15 x5 x13 x14:AV)(H:Heap)(Q:AV→Heap→Prop)(h : ∀g,lD g x15 x5 x13 x14 H Q):GoL env Tryz.f124 0 lz [(15,x15),(5,x5),(13,x13),(14,x14)] H Q:=cV fun g=>bn (live:=vC) (cut:=vJ) (n:=500) (Eq.mp (by kernel_rfl) (h g))
noncomputable def ig:Code:=(Tryz.f194.body).getD .skip
def kX:Nat→Option (List Nat):=fun i=>none
def k8:Nat→Bool:=fun i=>false
def dT(dep:Nat)(g:Nat→AV)(x0 x1:AV)(H:Heap)(Q:AV→Heap→Prop):Prop :=
 doQ (Z6 x0) fun v1 =>
 doQ (Zh 252 v1 2) fun v2 =>
 doQ (Zb H 4 v2) fun v3 =>
 gQ v3 false (ZI x0) fun v4 =>
 gQ v3 false (Z6 v4) fun v5 =>
 gQ v3 false (Zh 252 v5 0) fun v6 =>
 gQ v3 false (Zb H 76 v6) fun v7 =>
 gQ v3 false (ZR H dep 15 76 v7) fun v8 =>
 gQ v3 false (ZI x0) fun v9 =>
 gQ v3 false (Z6 v9) fun v10 =>
 gQ v3 false (Zh 252 v10 1) fun v11 =>
 gQ v3 false (Zb H 3 v11) fun v12 =>
 gQ v3 false (ZE 3 15 19 v8 v12) fun v13 =>
 gQ v3 false (ZI x1) fun v14 =>
 gQ v3 false (Zq 3 20 21 v13 v14) fun v15 =>
 doQ (Zn v3 v15) fun v16 =>
 doQ (Z6 x0) fun v17 =>
 doQ (Zh 252 v17 2) fun v18 =>
 doW (Zj H 4 v18 v16) fun v19 H1 =>
 doQ (Z6 x0) fun v20 =>
 doQ (Zh 252 v20 2) fun v21 =>
 doQ (Zb H1 4 v21) fun v22 =>
 br (some v22) (
 doW (nRes H1 (⟨(dep+1),31,Heap.gen H1 (dep+1) 31,0⟩:Ref) (sS env.P (⟨(dep+1),31,Heap.gen H1 (dep+1) 31,0⟩:Ref) 76 (some x1) (some x1))) fun v23 H2 =>
 Q v23 H2) (
 doQ (Z6 x0) fun v23 =>
 doQ (Zh 252 v23 1) fun v24 =>
 doQ (Zb H1 3 v24) fun v25 =>
 doQ (Zs 3 35 36 v25 x1) fun v26 =>
 doQ (Z6 x0) fun v27 =>
 doQ (Zh 252 v27 1) fun v28 =>
 doW (Zj H1 3 v28 v26) fun v29 H2 =>
 doQ (Z6 x0) fun v30 =>
 doQ (Zh 252 v30 0) fun v31 =>
 doQ (Zb H2 76 v31) fun v32 =>
 doQ (Z6 x0) fun v33 =>
 doQ (Zh 252 v33 1) fun v34 =>
 doQ (Zb H2 3 v34) fun v35 =>
 doQ (ZE 3 47 48 v35 x1) fun v36 =>
 doQ (Z6 x0) fun v37 =>
 doQ (Zh 252 v37 1) fun v38 =>
 doQ (Zb H2 3 v38) fun v39 =>
 doQ (cu env.P (Heap.get H2) 76 (some v32) (oi v36) (oi v39) (some none)) fun v40 =>
 Q v40 H2)
theorem kT(dep:Nat)(x0 x1:AV)(H:Heap)(Q:AV→Heap→Prop)(h : ∀g,dT dep g x0 x1 H Q):GoL env Tryz.f194 (dep+1) [.code ig] [(0,x0),(1,x1)] H Q:=⟨fun g=>bn (live:=kX) (cut:=k8) (n:=500) (Eq.mp (by kernel_rfl) (h g))⟩
noncomputable def iQ:Code:=(Tryz.f195.body).getD .skip
def mn:Nat→Option (List Nat):=fun i=>none
def mv:Nat→Bool:=fun i=>false
def eu(dep:Nat)(g:Nat→AV)(x0 x1:AV)(H:Heap)(Q:AV→Heap→Prop):Prop :=
 doW (Z2 H dep 4 40) fun v1 H1 =>
 doW (cl env true (limf env) (limt env (dep+1)) H1 (⟨(dep+1),10,Heap.gen H1 (dep+1) 10,0⟩:Ref) (some (.fn (.func 194) [] [])) [x0,(.v (.int .i64 13))]) fun v2 H2 =>
 doW (cl env true (limf env) (limt env (dep+1)) H2 (⟨(dep+1),13,Heap.gen H2 (dep+1) 13,0⟩:Ref) (some (.fn (.func 203) [] [])) [v2]) fun v3 H3 =>
 doQ (Zx v3 0) fun v4 =>
 doQ (Zx v3 1) fun v5 =>
 doW (Z2 H3 dep 6 40) fun v6 H4 =>
 doW (Zj H4 40 v6 v4) fun v7 H5 =>
 gQ x1 true (ZI v2) fun v8 =>
 gW x1 true H5 (nRes H5 (⟨(dep+1),19,Heap.gen H5 (dep+1) 19,0⟩:Ref) (sS env.P (⟨(dep+1),19,Heap.gen H5 (dep+1) 19,0⟩:Ref) 76 (some (AV.v (Value.int IntKind.i64 13))) (some (AV.v (Value.int IntKind.i64 13))))) fun v9 H6 =>
 gW x1 true H6 (cl env true (limf env) (limt env (dep+1)) H6 (⟨(dep+1),20,Heap.gen H6 (dep+1) 20,0⟩:Ref) (some (.fn (.func 87) [] [])) [v8,v9]) fun v10 H7 =>
 doQ (Zi x1 v10) fun v11 =>
 doQ (Z6 x0) fun v12 =>
 doQ (Zh 252 v12 2) fun v13 =>
 doQ (Zb H7 4 v13) fun v14 =>
 gQ v14 false (ZI v5) fun v15 =>
 gQ v14 false (Zc 30 28 0 v15) fun v16 =>
 gQ v14 false (ZI v16) fun v17 =>
 gQ v17 true (ZI v11) fun v18 =>
 gQ v17 true (ZG v18) fun v19 =>
 gQ v14 false (Zi v17 v19) fun v20 =>
 doQ (Zn v14 v20) fun v21 =>
 doQ (Z6 x0) fun v22 =>
 doQ (Zh 252 v22 2) fun v23 =>
 doW (Zj H7 4 v23 v21) fun v24 H8 =>
 doQ (Zb H8 40 v6) fun v25 =>
 doW (Zj H8 40 v1 v25) fun v26 H9 =>
 doQ (ZK H9 v1 40) fun v27 =>
 Q v27 H9
theorem mg(dep:Nat)(x0 x1:AV)(H:Heap)(Q:AV→Heap→Prop)(h : ∀g,eu dep g x0 x1 H Q):GoL env Tryz.f195 (dep+1) [.code iQ] [(0,x0),(1,x1)] H Q:=⟨fun g=>bn (live:=mn) (cut:=mv) (n:=500) (Eq.mp (by kernel_rfl) (h g))⟩
noncomputable def q5:Code:=(Tryz.f196.body).getD .skip
noncomputable def gz:List Item:=(iO 10006 400 [.code q5]).getD []
noncomputable def dB:Code:=rfA gz
noncomputable def dA:Code:=rfB gz
noncomputable def nU:List Item:=rfK gz
def qO:Nat→Option (List Nat):=fun i=>cond (Nat.beq i 10006) (some [16,2]) (none)
def qV:Nat→Bool:=fun i=>false
def vW(g:Nat→AV)(x0:AV)(H:Heap)(Q:AV→Heap→Prop):Prop :=
 doW (Zf H 2 43) fun v1 H1 =>
 doQ (Ze H1 8 76 x0) fun v2 =>
 doQ (Zr 3 8 256 v2) fun v3 =>
 br (some v3) (
 doW (ZZ H1 43 v1) fun v4 H2 =>
 doQ (ZK H2 v1 43) fun v5 =>
 Q (.tup [v5,(.v (.int .i64 4))]) H2) (
 doQ (Ze H1 12 76 x0) fun v4 =>
 doQ (ZP 3 12 4 v4) fun v5 =>
 doQ (Zr 3 13 0 v5) fun v6 =>
 br (some v6) (
 doW (ZZ H1 43 v1) fun v7 H2 =>
 doQ (ZK H2 v1 43) fun v8 =>
 Q (.tup [v8,(.v (.int .i64 8))]) H2) (
 doW (Za true H1 16 107 [x0,(.v (.int .i64 4))]) fun v7 H2 =>
  GoL env Tryz.f196 0 gz [(16,v7),(2,v1)] H2 Q))
theorem Cm(x0:AV)(H:Heap)(Q:AV→Heap→Prop)(h : ∀g,vW g x0 H Q):GoL env Tryz.f196 0 [.code q5] [(0,x0)] H Q:=⟨fun g=>bn (live:=qO) (cut:=qV) (n:=500) (Eq.mp (by kernel_rfl) (h g))⟩
def jZ(g:Nat→AV)(x2:AV)(H:Heap)(Q:AV→Heap→Prop):Prop :=
 doQ (Zb H 43 x2) fun v1 =>
 doW (Za true H 45 159 [v1]) fun v2 H1 =>
 doQ (Zc 30 46 0 v2) fun v3 =>
 br (some v3) (
 doW (ZZ H1 43 x2) fun v4 H2 =>
 doQ (ZK H2 x2 43) fun v5 =>
 Q (.tup [v5,v2]) H2) (
 doQ (Zb H1 43 x2) fun v4 =>
 doW (Zj H1 43 x2 v4) fun v5 H2 =>
 doQ (ZK H2 x2 43) fun v6 =>
 Q (.tup [v6,(.v (.int .i64 0))]) H2)
theorem sK(x2:AV)(H:Heap)(Q:AV→Heap→Prop)(h : ∀g,jZ g x2 H Q):GoL env Tryz.f196 0 nU [(2,x2)] H Q:=⟨fun g=>bn (live:=qO) (cut:=qV) (n:=500) (Eq.mp (by kernel_rfl) (h g))⟩
def kP(r:Ref)(g:Nat→AV)(x2 x17:AV)(H:Heap)(Q:AV→Heap→Prop):Prop :=
 bgP (lpAt H r) fun i1 =>
 doQ (ak env.P (Heap.get (Heap.put H r (some (fa 1 i1)))) 43 (some x2)) fun v2 =>
 doQ (ax env.P (Heap.get (Heap.put H r (some (fa 1 i1)))) 76 (some x17) (some (AV.v (Value.int IntKind.i64 0)))) fun v3 =>
 doQ (ak env.P (Heap.get (Heap.put H r (some (fa 1 i1)))) 5 (some v3)) fun v4 =>
 doQ (aW env.P (Heap.get (Heap.put H r (some (fa 1 i1)))) (⟨2,22,Heap.gen (Heap.put H r (some (fa 1 i1))) 2 22,0⟩:Ref) 5 34 (some v4)) fun v5 =>
 doQ (qBin env.P .shl 34 (Operand.tmp 22) (.const (.int .u64 24)) (some v5) (some (.v (.int .u64 24)))) fun v6 =>
 doQ (ax env.P (Heap.get (Heap.put H r (some (fa 1 i1)))) 76 (some x17) (some (AV.v (Value.int IntKind.i64 1)))) fun v7 =>
 doQ (ak env.P (Heap.get (Heap.put H r (some (fa 1 i1)))) 5 (some v7)) fun v8 =>
 doQ (aW env.P (Heap.get (Heap.put H r (some (fa 1 i1)))) (⟨2,27,Heap.gen (Heap.put H r (some (fa 1 i1))) 2 27,0⟩:Ref) 5 34 (some v8)) fun v9 =>
 doQ (Ye 34 27 v9) fun v10 =>
 doQ (ZM 34 23 28 v6 v10) fun v11 =>
 doQ (ax env.P (Heap.get (Heap.put H r (some (fa 1 i1)))) 76 (some x17) (some (AV.v (Value.int IntKind.i64 2)))) fun v12 =>
 doQ (ak env.P (Heap.get (Heap.put H r (some (fa 1 i1)))) 5 (some v12)) fun v13 =>
 doQ (aW env.P (Heap.get (Heap.put H r (some (fa 1 i1)))) (⟨2,33,Heap.gen (Heap.put H r (some (fa 1 i1))) 2 33,0⟩:Ref) 5 34 (some v13)) fun v14 =>
 doQ (ZL 34 33 v14) fun v15 =>
 doQ (ZM 34 29 34 v11 v15) fun v16 =>
 doQ (ax env.P (Heap.get (Heap.put H r (some (fa 1 i1)))) 76 (some x17) (some (AV.v (Value.int IntKind.i64 3)))) fun v17 =>
 doQ (ak env.P (Heap.get (Heap.put H r (some (fa 1 i1)))) 5 (some v17)) fun v18 =>
 doQ (aW env.P (Heap.get (Heap.put H r (some (fa 1 i1)))) (⟨2,39,Heap.gen (Heap.put H r (some (fa 1 i1))) 2 39,0⟩:Ref) 5 34 (some v18)) fun v19 =>
 doQ (ZM 34 35 39 v16 v19) fun v20 =>
 doQ (aW env.P (Heap.get (Heap.put H r (some (fa 1 i1)))) (⟨2,41,Heap.gen (Heap.put H r (some (fa 1 i1))) 2 41,0⟩:Ref) 34 21 (some v20)) fun v21 =>
 doW (ik env.P true false (Heap.put H r (some (fa 1 i1))) (⟨2,42,Heap.gen (Heap.put H r (some (fa 1 i1))) 2 42,0⟩:Ref) 43 1 (some [(0,v21)])) fun v22 H1 =>
 doW (cE env.P true H1 (⟨2,43,Heap.gen H1 2 43,0⟩:Ref) (some 43) (some 43) v2 v22) fun v23 H2 =>
 doW (Zj H2 43 x2 v23) fun v24 H3 =>
 Q (.v (.int .i64 0)) H3
theorem tj(r:Ref)(x2 x17:AV)(H:Heap)(Q:AV→Heap→Prop)(h : ∀g,kP r g x2 x17 H Q):GoX env Tryz.f196 (some r) 2 [.code dB,.beginRound,.code dA] [(2,x2),(17,x17)] H Q:=⟨fun g=>bn (live:=qO) (cut:=qV) (n:=500) (Eq.mp (by kernel_rfl) (h g))⟩
noncomputable def sy:Code:=(Tryz.f197.body).getD .skip
def zm:Nat→Option (List Nat):=fun i=>none
def zF:Nat→Bool:=fun i=>false
def sJ(g:Nat→AV)(x0:AV)(H:Heap)(Q:AV→Heap→Prop):Prop :=
 doQ (Z7 76 3 x0) fun v1 =>
 br (some v1) (
 Q (.v (.slice none 0 0)) H) (
 doW (ik env.P false true H (Ref.mk 0 5 (Heap.gen H 0 5) 0) 76 0 (some [])) fun v2 H1 =>
 doW (Zt H1 7 76 76 v2 x0) fun v3 H2 =>
 Q v3 H2)
theorem yW(x0:AV)(H:Heap)(Q:AV→Heap→Prop)(h : ∀g,sJ g x0 H Q):GoL env Tryz.f197 0 [.code sy] [(0,x0)] H Q:=⟨fun g=>bn (live:=zm) (cut:=zF) (n:=500) (Eq.mp (by kernel_rfl) (h g))⟩
noncomputable def fQ:Code:=(Tryz.f107.body).getD .skip
def mJ:Nat→Option (List Nat):=fun i=>none
def mN:Nat→Bool:=fun i=>false
def fR(g:Nat→AV)(x0 x1:AV)(H:Heap)(Q:AV→Heap→Prop):Prop :=
 doW (Zd H 2 76 x0) fun v1 H1 =>
 doW (Zd H1 3 3 x1) fun v2 H2 =>
 doQ (Zb H2 3 v2) fun v3 =>
 doQ (Zm 3 5 1 v3) fun v4 =>
 br (some v4) (
 doQ (qH env.P 9 (some (.v (.string ⟨#[99,97,110,110,111,116,32,98,101,32,108,101,115,115,32,116,104,97,110,32,49]⟩)))) fun v5 =>
 doQ (none) fun v6 =>
 doQ (tH (.func 145) (some []) (some [v1,v2])) fun v7 =>
 Q v7 H2) (
 doQ (tH (.func 145) (some []) (some [v1,v2])) fun v5 =>
 Q v5 H2)
theorem iY(x0 x1:AV)(H:Heap)(Q:AV→Heap→Prop)(h : ∀g,fR g x0 x1 H Q):GoL env Tryz.f107 0 [.code fQ] [(0,x0),(1,x1)] H Q:=⟨fun g=>bn (live:=mJ) (cut:=mN) (n:=500) (Eq.mp (by kernel_rfl) (h g))⟩
noncomputable def sv:Code:=(Tryz.f87.body).getD .skip
def zl:Nat→Option (List Nat):=fun i=>none
def zE:Nat→Bool:=fun i=>false
def jJ(g:Nat→AV)(x0 x1:AV)(H:Heap)(Q:AV→Heap→Prop):Prop :=
 doQ (Zp H 6 76 9 x0) fun v1 =>
 doQ (Zp H 8 76 9 x1) fun v2 =>
 doQ (Zo 9 6 8 v1 v2) fun v3 =>
 Q v3 H
theorem yV(x0 x1:AV)(H:Heap)(Q:AV→Heap→Prop)(h : ∀g,jJ g x0 x1 H Q):GoL env Tryz.f87 0 [.code sv] [(0,x0),(1,x1)] H Q:=⟨fun g=>bn (live:=zl) (cut:=zE) (n:=500) (Eq.mp (by kernel_rfl) (h g))⟩
noncomputable def jj:Code:=(Tryz.f146.body).getD .skip
def ni:Nat→Option (List Nat):=fun i=>none
def nz:Nat→Bool:=fun i=>false
def jk(g:Nat→AV)(x0 x1:AV)(H:Heap)(Q:AV→Heap→Prop):Prop :=
 doQ (Zm 3 5 0 x1) fun v1 =>
 br (some v1) (
 doQ (Z1 9) fun v2 =>
 doQ (none) fun v3 =>
 doQ (ZJ H 10 76 x0) fun v4 =>
 doQ (Ze H 12 76 x0) fun v5 =>
 doQ (ZE 3 10 12 v4 v5) fun v6 =>
 doQ (ZE 3 8 13 x1 v6) fun v7 =>
 doQ (Zr 3 15 0 v7) fun v8 =>
 br (some v8) (
 doQ (ZJ H 19 76 x0) fun v9 =>
 doQ (ZC H 76 x0 v9) fun v10 =>
 doW (Zt H 22 76 3 v10 v7) fun v11 H1 =>
 doQ (Ze H1 24 76 x0) fun v12 =>
 doQ (ZC H1 76 v11 v12) fun v13 =>
 Q v13 H1) (
 Q x0 H)) (
 doQ (ZJ H 10 76 x0) fun v2 =>
 doQ (Ze H 12 76 x0) fun v3 =>
 doQ (ZE 3 10 12 v2 v3) fun v4 =>
 doQ (ZE 3 8 13 x1 v4) fun v5 =>
 doQ (Zr 3 15 0 v5) fun v6 =>
 br (some v6) (
 doQ (ZJ H 19 76 x0) fun v7 =>
 doQ (ZC H 76 x0 v7) fun v8 =>
 doW (Zt H 22 76 3 v8 v5) fun v9 H1 =>
 doQ (Ze H1 24 76 x0) fun v10 =>
 doQ (ZC H1 76 v9 v10) fun v11 =>
 Q v11 H1) (
 Q x0 H))
theorem mX(x0 x1:AV)(H:Heap)(Q:AV→Heap→Prop)(h : ∀g,jk g x0 x1 H Q):GoL env Tryz.f146 0 [.code jj] [(0,x0),(1,x1)] H Q:=⟨fun g=>bn (live:=ni) (cut:=nz) (n:=500) (Eq.mp (by kernel_rfl) (h g))⟩
noncomputable def dX:Code:=(Tryz.f145.body).getD .skip
noncomputable def cF:List Item:=(cb 1 400 [.code dX]).getD []
def ir:Nat→Option (List Nat):=fun i=>cond (Nat.beq i 1) (some [2,4,1,0]) (none)
def iw:Nat→Bool:=fun i=>false
def fB(dep:Nat)(g:Nat→AV)(x0 x1 x2:AV)(H:Heap)(Q:AV→Heap→Prop):Prop :=
 GoL env Tryz.f145 (dep+1) cF [(2,x2),(4,(.v (.int .i64 0))),(1,x1),(0,x0)] H Q
theorem il(dep:Nat)(x0 x1 x2:AV)(H:Heap)(Q:AV→Heap→Prop)(h : ∀g,fB dep g x0 x1 x2 H Q):GoL env Tryz.f145 (dep+1) [.code dX] [(0,x0),(1,x1),(2,x2)] H Q:=⟨fun g=>bn (live:=ir) (cut:=iw) (n:=500) (Eq.mp (by kernel_rfl) (h g))⟩
def cG(dep:Nat)(g:Nat→AV)(x2 x4 x1 x0:AV)(H:Heap)(Q:AV→Heap→Prop):Prop :=
 doQ (Zb H 76 x1) fun v1 =>
 doQ (ZR H dep 8 76 v1) fun v2 =>
 doQ (Zq 3 6 8 x4 v2) fun v3 =>
 br (some v3) (
 doQ (Zb H 3 x2) fun v4 =>
 doQ (Zb H 76 x1) fun v5 =>
 doQ (ZD H 76 v5 x4) fun v6 =>
 doQ (ZR H dep 17 76 v6) fun v7 =>
 doQ (aw env.P true (Heap.get H) (⟨(dep+1),18,Heap.gen H (dep+1) 18,0⟩:Ref) .min #[3,3] [v4,v7]) fun v8 =>
 doQ (Zb H 76 x1) fun v9 =>
 doQ (Zs 3 22 23 x4 v8) fun v10 =>
 doQ (Zs 3 25 26 x4 v8) fun v11 =>
 doQ (cu env.P (Heap.get H) 76 (some v9) (oi x4) (oi v10) (oi v11)) fun v12 =>
 doW (cl env true (limf env) (limt env (dep+1)) H (⟨(dep+1),29,Heap.gen H (dep+1) 29,0⟩:Ref) (some x0) [v12]) fun v13 H1 =>
 doQ (ZG v13) fun v14 =>
 br (some v14) (
 Q (.v (.tuple #[])) H1) (
 doQ (Zb H1 3 x2) fun v15 =>
 doQ (Zs 3 10 11 x4 v15) fun v16 =>
  GoL env Tryz.f145 (dep+1) cF [(2,x2),(4,v16),(1,x1),(0,x0)] H1 Q)) (
 Q (.v (.tuple #[])) H)
theorem de(dep:Nat)(x2 x4 x1 x0:AV)(H:Heap)(Q:AV→Heap→Prop)(h : ∀g,cG dep g x2 x4 x1 x0 H Q):GoL env Tryz.f145 (dep+1) cF [(2,x2),(4,x4),(1,x1),(0,x0)] H Q:=cV fun g=>bn (live:=ir) (cut:=iw) (n:=500) (Eq.mp (by kernel_rfl) (h g))
end Go.Proofs.YtiidajnodhkidaaGreat
