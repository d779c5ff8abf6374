/-
  What is to be shown of each function, computed from its code. No statement of a seat is proved here.
-/
import Derived.Test.YtiidajnodhkidaaGreatMStOk
set_option linter.unusedVariables false
set_option maxRecDepth 1000000
namespace Go.Proofs.YtiidajnodhkidaaGreat
open Go.Ab
noncomputable def qX:Code:=(Tryz.f82.body).getD .skip
def JG:Nat→Option (List Nat):=fun i=>none
def Kx:Nat→Bool:=fun i=>false
def oZ(g:Nat→AV)(x0:AV)(H:Heap)(Q:AV→Heap→Prop):Prop :=
 doW (Zd H 1 45 x0) fun v1 H1 =>
 doQ (Zb H1 45 v1) fun v2 =>
 doW (Za true H1 16 122 [v2]) fun v3 H2 =>
 doQ (Zc 30 17 0 v3) fun v4 =>
 br (some v4) (
 Q (.tup [(.v (.slice none 0 0)),v3]) H2) (
 doQ (Zh 45 v1 1) fun v5 =>
 doQ (Zb H2 38 v5) fun v6 =>
 doW (Za true H2 23 81 [v6]) fun v7 H3 =>
 doQ (Zy v7 0) fun v8 =>
 doQ (Zy v7 1) fun v9 =>
 doQ (Zh 45 v1 3) fun v10 =>
 doQ (Zh 42 v10 0) fun v11 =>
 doQ (Zb H3 40 v11) fun v12 =>
 doW (Za true H3 30 123 [v12]) fun v13 H4 =>
 doQ (Zy v13 0) fun v14 =>
 doQ (Zy v13 1) fun v15 =>
 doQ (Zh 45 v1 0) fun v16 =>
 doQ (Zb H4 5 v16) fun v17 =>
 doW (Zz H4 35 76 1 0 v17) fun v18 H5 =>
 doQ (Zh 45 v1 2) fun v19 =>
 doQ (Zb H5 3 v19) fun v20 =>
 doQ (Yq 3 38 v20) fun v21 =>
 doQ (Zp H5 40 3 5 v21) fun v22 =>
 doQ (Zh 45 v1 2) fun v23 =>
 doQ (Zb H5 3 v23) fun v24 =>
 doQ (ZZ 3 42 v24) fun v25 =>
 doQ (Zp H5 44 3 5 v25) fun v26 =>
 doQ (Zh 45 v1 2) fun v27 =>
 doQ (Zb H5 3 v27) fun v28 =>
 doQ (Zp H5 47 3 5 v28) fun v29 =>
 doW (gY env.P false true H5 (Ref.mk 0 48 (Heap.gen H5 0 48) 0) 76 3 (some [(0,v22),(1,v26),(2,v29)])) fun v30 H6 =>
 doQ (Zh 45 v1 3) fun v31 =>
 doQ (Zh 42 v31 1) fun v32 =>
 doQ (Zb H6 3 v32) fun v33 =>
 doQ (Zp H6 53 3 5 v33) fun v34 =>
 doW (Zz H6 54 76 1 0 v34) fun v35 H7 =>
 doW (gY env.P false true H7 (Ref.mk 0 55 (Heap.gen H7 0 55) 0) 122 5 (some [(0,v18),(1,v8),(2,v30),(3,v14),(4,v35)])) fun v36 H8 =>
 doW (Za true H8 56 108 [v36]) fun v37 H9 =>
 doQ (Zh 45 v1 0) fun v38 =>
 doQ (Zb H9 5 v38) fun v39 =>
 doQ (ZR 5 58 v39) fun v40 =>
 br (some v40) (
 doW (ZO H9 61 76 13) fun v41 H10 =>
 doQ (Zh 45 v1 4) fun v42 =>
 doQ (Zb H10 40 v42) fun v43 =>
 doQ (ZC 40) fun v44 =>
 doQ (Zx 40 63 64 v43 v44) fun v45 =>
 br (some v45) (
 doQ (Zh 45 v1 4) fun v46 =>
 doQ (Zb H10 40 v46) fun v47 =>
 doW (Za true H10 69 123 [v47]) fun v48 H11 =>
 doQ (Zy v48 0) fun v49 =>
 doQ (Zy v48 1) fun v50 =>
 doQ (Zh 45 v1 6) fun v51 =>
 doQ (Zb H11 43 v51) fun v52 =>
 doW (Za true H11 75 124 [v52]) fun v53 H12 =>
 doQ (Zy v53 0) fun v54 =>
 doQ (Zy v53 1) fun v55 =>
 doW (gY env.P false true H12 (Ref.mk 0 81 (Heap.gen H12 0 81) 0) 122 3 (some [(0,v37),(1,v49),(2,v54)])) fun v56 H13 =>
 doW (Za true H13 82 108 [v56]) fun v57 H14 =>
 Q (.tup [v57,(.v (.int .i64 0))]) H14) (
 doQ (Zh 45 v1 6) fun v46 =>
 doQ (Zb H10 43 v46) fun v47 =>
 doW (Za true H10 75 124 [v47]) fun v48 H11 =>
 doQ (Zy v48 0) fun v49 =>
 doQ (Zy v48 1) fun v50 =>
 doW (gY env.P false true H11 (Ref.mk 0 81 (Heap.gen H11 0 81) 0) 122 3 (some [(0,v37),(1,v41),(2,v49)])) fun v51 H12 =>
 doW (Za true H12 82 108 [v51]) fun v52 H13 =>
 Q (.tup [v52,(.v (.int .i64 0))]) H13)) (
 doQ (ZX 5 58 v39) fun v41 =>
 br (some v41) (
 doQ (Zh 45 v1 5) fun v42 =>
 doQ (Zb H9 36 v42) fun v43 =>
 doQ (Z0 38 0 v43) fun v44 =>
 doW (Za true H9 89 81 [v44]) fun v45 H10 =>
 doQ (Zy v45 0) fun v46 =>
 doQ (Zy v45 1) fun v47 =>
 doQ (cw env.P (Heap.get H10) 76 (some v46) (some none) (oi (.v (.int .i64 5))) (some none)) fun v48 =>
 doW (Zt H10 95 76 76 v37 v48) fun v49 H11 =>
 Q (.tup [v49,(.v (.int .i64 0))]) H11) (
 Q (.tup [v37,(.v (.int .i64 0))]) H9)))
theorem tj(x0:AV)(H:Heap)(Q:AV→Heap→Prop)(h : ∀g,oZ g x0 H Q):GoL env Tryz.f82 0 [.code qX] [(0,x0)] H Q:=⟨fun g=>bq (live:=JG) (cut:=Kx) (n:=500) (Eq.mp (by kernel_rfl) (h g))⟩
noncomputable def DP:Code:=(Tryz.f176.body).getD .skip
def JH:Nat→Option (List Nat):=fun i=>none
def Ky:Nat→Bool:=fun i=>false
def DR(g:Nat→AV)(x0:AV)(H:Heap)(Q:AV→Heap→Prop):Prop :=
 doW (Zf H 2 45) fun v1 H1 =>
 doQ (Z0 252 0 x0) fun v2 =>
 doW (Zd H1 17 252 v2) fun v3 H2 =>
 doQ (sR (.func 194) (some [v3]) (some [])) fun v4 =>
 doQ (sR (.func 195) (some [v3]) (some [])) fun v5 =>
 doW (Z7 H2 23 v4) fun v6 H3 =>
 doQ (Zv H3 76 v6 0) fun v7 =>
 doQ (Zb H3 5 v7) fun v8 =>
 doQ (Zh 45 v1 0) fun v9 =>
 doW (Zj H3 5 v9 v8) fun v10 H4 =>
 doW (cr env true (limf env) (limt env 0) H4 (Ref.mk 0 29 (Heap.gen H4 0 29) 0) (some v4) [(.v (.int .i64 6))]) fun v11 H5 =>
 doW (Za true H5 30 175 [v11]) fun v12 H6 =>
 doQ (Zy v12 0) fun v13 =>
 doQ (Zy v12 1) fun v14 =>
 doW (Zf H6 8 38) fun v15 H7 =>
 doW (Zj H7 38 v15 v13) fun v16 H8 =>
 doW (cr env true (limf env) (limt env 0) H8 (Ref.mk 0 34 (Heap.gen H8 0 34) 0) (some v4) [(.v (.int .i64 3))]) fun v17 H9 =>
 doQ (Zb H9 38 v15) fun v18 =>
 doQ (Zv H9 76 v17 0) fun v19 =>
 doQ (Zb H9 5 v19) fun v20 =>
 doQ (Zp H9 39 5 3 v20) fun v21 =>
 doQ (Yr 3 39 v21) fun v22 =>
 doQ (Zv H9 76 v17 1) fun v23 =>
 doQ (Zb H9 5 v23) fun v24 =>
 doQ (Zp H9 44 5 3 v24) fun v25 =>
 doQ (ZL 3 44 v25) fun v26 =>
 doQ (ZN 3 40 45 v22 v26) fun v27 =>
 doQ (Zv H9 76 v17 2) fun v28 =>
 doQ (Zb H9 5 v28) fun v29 =>
 doQ (Zp H9 50 5 3 v29) fun v30 =>
 doQ (ZN 3 46 50 v27 v30) fun v31 =>
 doQ (Zh 45 v1 1) fun v32 =>
 doW (Zj H9 38 v32 v18) fun v33 H10 =>
 doQ (Zh 45 v1 2) fun v34 =>
 doW (Zj H10 3 v34 v31) fun v35 H11 =>
  oX [(v17,v32),(v19,v32),(v20,v32),(v17,v32),(v23,v32),(v24,v32),(v17,v32),(v28,v32),(v29,v32)] [v32,v34] [] H11 ∧
 (doW (cr env true (limf env) (limt env 0) H11 (Ref.mk 0 55 (Heap.gen H11 0 55) 0) (some v5) [(.v (.bool false))]) fun v36 H12 =>
 doQ (Zh 45 v1 3) fun v37 =>
 doQ (Zh 42 v37 0) fun v38 =>
 doW (Zj H12 40 v38 v36) fun v39 H13 =>
 doW (Z7 H13 59 v4) fun v40 H14 =>
 doQ (Zv H14 76 v40 0) fun v41 =>
 doQ (Zb H14 5 v41) fun v42 =>
 doQ (Zp H14 62 5 3 v42) fun v43 =>
 doQ (Zh 45 v1 3) fun v44 =>
 doQ (Zh 42 v44 1) fun v45 =>
 doW (Zj H14 3 v45 v43) fun v46 H15 =>
 doQ (Z8 v3) fun v47 =>
 doQ (Zh 252 v47 2) fun v48 =>
 doQ (Zb H15 4 v48) fun v49 =>
 gQ v49 false (ZD v14) fun v50 =>
 gQ v49 false (Zc 30 70 0 v50) fun v51 =>
 doQ (Zm v49 v51) fun v52 =>
 gQ v52 false (Zh 45 v1 3) fun v53 =>
 gQ v52 false (Zh 42 v53 1) fun v54 =>
 gQ v52 false (Zb H15 3 v54) fun v55 =>
 gQ v52 false (Zr 3 76 64 v55) fun v56 =>
 doQ (Zm v52 v56) fun v57 =>
 br (some v57) (
 doQ (ZC 45) fun v58 =>
 doW (Zj H15 45 v1 v58) fun v59 H16 =>
 doQ (ZJ H16 v1 45) fun v60 =>
 Q (.tup [v60,(.v (.int .i64 0)),(.v (.int .i64 8))]) H16) (
 doQ (Zh 45 v1 0) fun v58 =>
 doQ (Zb H15 5 v58) fun v59 =>
 doQ (ZR 5 81 v59) fun v60 =>
 br (some v60) (
 doW (cr env true (limf env) (limt env 0) H15 (Ref.mk 0 85 (Heap.gen H15 0 85) 0) (some v5) [(.v (.bool true))]) fun v61 H16 =>
 doQ (Zh 45 v1 4) fun v62 =>
 doW (Zj H16 40 v62 v61) fun v63 H17 =>
 doQ (Zh 45 v1 3) fun v64 =>
 doQ (Zh 42 v64 1) fun v65 =>
 doQ (Zb H17 3 v65) fun v66 =>
 doQ (ZI 3 4 91 v66) fun v67 =>
 doW (ZB H17 93 v4 v67) fun v68 H18 =>
 doW (Za true H18 94 196 [v68]) fun v69 H19 =>
 doQ (Zy v69 0) fun v70 =>
 doQ (Zy v69 1) fun v71 =>
 doQ (Z8 v3) fun v72 =>
 doQ (Zh 252 v72 2) fun v73 =>
 doQ (Zb H19 4 v73) fun v74 =>
 gQ v74 false (ZD v71) fun v75 =>
 gQ v74 false (Zc 30 104 0 v75) fun v76 =>
 doQ (Zm v74 v76) fun v77 =>
 doQ (Zh 45 v1 6) fun v78 =>
 doW (Zj H19 43 v78 v70) fun v79 H20 =>
 doQ (Z8 v3) fun v80 =>
 doQ (Zh 252 v80 2) fun v81 =>
 doW (Zj H20 4 v81 v77) fun v82 H21 =>
 doQ (Z8 v3) fun v83 =>
 doQ (Zh 252 v83 2) fun v84 =>
 doQ (Zb H21 4 v84) fun v85 =>
 gQ v85 false (Zb H21 45 v1) fun v86 =>
 gW v85 false H21 (Za true H21 141 122 [v86]) fun v87 H22 =>
 gQ v85 false (Zc 30 141 0 v87) fun v88 =>
 doQ (Zm v85 v88) fun v89 =>
 br (some v89) (
 doQ (ZC 45) fun v90 =>
 doW (Zj H22 45 v1 v90) fun v91 H23 =>
 doQ (ZJ H23 v1 45) fun v92 =>
 Q (.tup [v92,(.v (.int .i64 0)),(.v (.int .i64 8))]) H23) (
 doQ (Zb H22 45 v1) fun v90 =>
 doQ (Z8 v3) fun v91 =>
 doQ (Zh 252 v91 1) fun v92 =>
 doQ (Zb H22 3 v92) fun v93 =>
 doW (Zj H22 45 v1 v90) fun v94 H23 =>
  oX [(v92,v1)] [v1] [] H23 ∧
 (doQ (ZJ H23 v1 45) fun v95 =>
 Q (.tup [v95,v93,(.v (.int .i64 0))]) H23))) (
 doQ (ZX 5 81 v59) fun v61 =>
 br (some v61) (
 doW (cr env true (limf env) (limt env 0) H15 (Ref.mk 0 114 (Heap.gen H15 0 114) 0) (some v4) [(.v (.int .i64 5))]) fun v62 H16 =>
 doW (Za true H16 115 197 [v62]) fun v63 H17 =>
 doW (gY env.P false true H17 (Ref.mk 0 116 (Heap.gen H17 0 116) 0) 76 1 (some [(0,(a8 0))])) fun v64 H18 =>
 doW (Zt H18 117 76 76 v63 v64) fun v65 H19 =>
 doW (Za true H19 118 175 [v65]) fun v66 H20 =>
 doQ (Zy v66 0) fun v67 =>
 doQ (Zy v66 1) fun v68 =>
 doW (Zf H20 13 38) fun v69 H21 =>
 doW (Zj H21 38 v69 v67) fun v70 H22 =>
 doQ (Zh 38 v69 0) fun v71 =>
 doQ (Zb H22 36 v71) fun v72 =>
 doQ (Z8 v3) fun v73 =>
 doQ (Zh 252 v73 2) fun v74 =>
 doQ (Zb H22 4 v74) fun v75 =>
 gQ v75 false (ZD v68) fun v76 =>
 gQ v75 false (Zc 30 129 0 v76) fun v77 =>
 doQ (Zm v75 v77) fun v78 =>
 doQ (Zh 45 v1 5) fun v79 =>
 doW (Zj H22 36 v79 v72) fun v80 H23 =>
 doQ (Z8 v3) fun v81 =>
 doQ (Zh 252 v81 2) fun v82 =>
 doW (Zj H23 4 v82 v78) fun v83 H24 =>
 doQ (Z8 v3) fun v84 =>
 doQ (Zh 252 v84 2) fun v85 =>
 doQ (Zb H24 4 v85) fun v86 =>
 gQ v86 false (Zb H24 45 v1) fun v87 =>
 gW v86 false H24 (Za true H24 141 122 [v87]) fun v88 H25 =>
 gQ v86 false (Zc 30 141 0 v88) fun v89 =>
 doQ (Zm v86 v89) fun v90 =>
 br (some v90) (
 doQ (ZC 45) fun v91 =>
 doW (Zj H25 45 v1 v91) fun v92 H26 =>
 doQ (ZJ H26 v1 45) fun v93 =>
 Q (.tup [v93,(.v (.int .i64 0)),(.v (.int .i64 8))]) H26) (
 doQ (Zb H25 45 v1) fun v91 =>
 doQ (Z8 v3) fun v92 =>
 doQ (Zh 252 v92 1) fun v93 =>
 doQ (Zb H25 3 v93) fun v94 =>
 doW (
  ax env.P H25 45 (some v1) (some v91)) fun v95 H26 =>
  oX [(v93,v1)] [v1] [] H26 ∧
 (doQ (ZJ H26 v1 45) fun v96 =>
 Q (.tup [v96,v94,(.v (.int .i64 0))]) H26))) (
 doQ (Z8 v3) fun v62 =>
 doQ (Zh 252 v62 2) fun v63 =>
 doQ (Zb H15 4 v63) fun v64 =>
 gQ v64 false (Zb H15 45 v1) fun v65 =>
 gW v64 false H15 (Za true H15 141 122 [v65]) fun v66 H16 =>
 gQ v64 false (Zc 30 141 0 v66) fun v67 =>
 doQ (Zm v64 v67) fun v68 =>
 br (some v68) (
 doQ (ZC 45) fun v69 =>
 doW (Zj H16 45 v1 v69) fun v70 H17 =>
 doQ (ZJ H17 v1 45) fun v71 =>
 Q (.tup [v71,(.v (.int .i64 0)),(.v (.int .i64 8))]) H17) (
 doQ (Zb H16 45 v1) fun v69 =>
 doQ (Z8 v3) fun v70 =>
 doQ (Zh 252 v70 1) fun v71 =>
 doQ (Zb H16 3 v71) fun v72 =>
 doW (
  ax env.P H16 45 (some v1) (some v69)) fun v73 H17 =>
  oX [(v71,v1)] [v1] [] H17 ∧
 (doQ (ZJ H17 v1 45) fun v74 =>
 Q (.tup [v74,v72,(.v (.int .i64 0))]) H17))))))
theorem Ic(x0:AV)(H:Heap)(Q:AV→Heap→Prop)(h : ∀g,DR g x0 H Q):GoL env Tryz.f176 0 [.code DP] [(0,x0)] H Q:=⟨fun g=>bq (live:=JH) (cut:=Ky) (n:=500) (Eq.mp (by kernel_rfl) (h g))⟩
noncomputable def ei:Code:=(Tryz.f108.body).getD .skip
noncomputable def dk:List Item:=(cm 3 400 [.code ei]).getD []
noncomputable def df:List Item:=(cm 11 400 [.code ei]).getD []
def fB:Nat→Option (List Nat):=fun i=>cond (Nat.beq i 3) (some [11,3,9,0,10]) (cond (Nat.beq i 11) (some [27,6,25,26]) (none))
def fC:Nat→Bool:=fun i=>false
def iN(g:Nat→AV)(x0:AV)(H:Heap)(Q:AV→Heap→Prop):Prop :=
 doQ (Zg H 10 122 x0) fun v1 =>
  GoL env Tryz.f108 0 dk [(11,(.v (.int .i64 0))),(3,(.v (.int .i64 0))),(9,x0),(0,x0),(10,v1)] H Q
theorem lX(x0:AV)(H:Heap)(Q:AV→Heap→Prop)(h : ∀g,iN g x0 H Q):GoL env Tryz.f108 0 [.code ei] [(0,x0)] H Q:=⟨fun g=>bq (live:=fB) (cut:=fC) (n:=500) (Eq.mp (by kernel_rfl) (h g))⟩
def fb(g:Nat→AV)(x11 x3 x9 x0 x10:AV)(H:Heap)(Q:AV→Heap→Prop):Prop :=
 doQ (Zq 3 11 10 x11 x10) fun v1 =>
 br (some v1) (
 doQ (Zs H 122 x9 x11) fun v2 =>
 doQ (Zb H 76 v2) fun v3 =>
 doQ (Zg H 17 76 v3) fun v4 =>
 doQ (Zu 3 15 17 x3 v4) fun v5 =>
 doQ (Zn 3 19 0 v5) fun v6 =>
 br (some v6) (
 doQ (Z5 9) fun v7 =>
 doQ (none) fun v8 =>
 doQ (Ze 3 11 1 x11) fun v9 =>
  GoL env Tryz.f108 0 dk [(11,v9),(3,v5),(9,x9),(0,x0),(10,x10)] H Q) (
 doQ (Ze 3 11 1 x11) fun v7 =>
  GoL env Tryz.f108 0 dk [(11,v7),(3,v5),(9,x9),(0,x0),(10,x10)] H Q)) (
 doW (Za true H 24 146 [(.v (.slice none 0 0)),x3]) fun v2 H1 =>
 doQ (Zg H1 26 122 x0) fun v3 =>
  GoL env Tryz.f108 0 df [(27,(.v (.int .i64 0))),(6,v2),(25,x0),(26,v3)] H1 Q)
theorem gR(x11 x3 x9 x0 x10:AV)(H:Heap)(Q:AV→Heap→Prop)(h : ∀g,fb g x11 x3 x9 x0 x10 H Q):GoL env Tryz.f108 0 dk [(11,x11),(3,x3),(9,x9),(0,x0),(10,x10)] H Q:=c9 fun g=>bq (live:=fB) (cut:=fC) (n:=500) (Eq.mp (by kernel_rfl) (h g))
def dK(g:Nat→AV)(x27 x6 x25 x26:AV)(H:Heap)(Q:AV→Heap→Prop):Prop :=
 doQ (Zq 3 27 26 x27 x26) fun v1 =>
 br (some v1) (
 doQ (Zs H 122 x25 x27) fun v2 =>
 doQ (Zb H 76 v2) fun v3 =>
 doW (Zt H 33 76 76 x6 v3) fun v4 H1 =>
 doQ (Ze 3 27 1 x27) fun v5 =>
  GoL env Tryz.f108 0 df [(27,v5),(6,v4),(25,x25),(26,x26)] H1 Q) (
 Q x6 H)
theorem gN(x27 x6 x25 x26:AV)(H:Heap)(Q:AV→Heap→Prop)(h : ∀g,dK g x27 x6 x25 x26 H Q):GoL env Tryz.f108 0 df [(27,x27),(6,x6),(25,x25),(26,x26)] H Q:=c9 fun g=>bq (live:=fB) (cut:=fC) (n:=500) (Eq.mp (by kernel_rfl) (h g))
noncomputable def qS:Code:=(Tryz.f124.body).getD .skip
noncomputable def lj:List Item:=(cm 6 400 [.code qS]).getD []
def vD:Nat→Option (List Nat):=fun i=>cond (Nat.beq i 6) (some [15,5,13,14]) (none)
def vK:Nat→Bool:=fun i=>false
def re(g:Nat→AV)(x0:AV)(H:Heap)(Q:AV→Heap→Prop):Prop :=
 doW (Za true H 9 159 [x0]) fun v1 H1 =>
 doQ (Zc 30 10 0 v1) fun v2 =>
 br (some v2) (
 Q (.tup [(.v (.slice none 0 0)),v1]) H1) (
 doQ (Zg H1 14 43 x0) fun v3 =>
  GoL env Tryz.f124 0 lj [(15,(.v (.int .i64 0))),(5,(.v (.slice none 0 0))),(13,x0),(14,v3)] H1 Q)
theorem Cr(x0:AV)(H:Heap)(Q:AV→Heap→Prop)(h : ∀g,re g x0 H Q):GoL env Tryz.f124 0 [.code qS] [(0,x0)] H Q:=⟨fun g=>bq (live:=vD) (cut:=vK) (n:=500) (Eq.mp (by kernel_rfl) (h g))⟩
def lA(g:Nat→AV)(x15 x5 x13 x14:AV)(H:Heap)(Q:AV→Heap→Prop):Prop :=
 doQ (Zq 3 15 14 x15 x14) fun v1 =>
 br (some v1) (
 doQ (Zs H 43 x13 x15) fun v2 =>
 doQ (Zb H 21 v2) fun v3 =>
 doQ (qBin env.P .shr 21 (Operand.tmp 20) (.const (.int .u64 24)) (some v3) (some (.v (.int .u64 24)))) fun v4 =>
 doQ (Zp H 22 21 5 v4) fun v5 =>
 doQ (Yq 21 23 v3) fun v6 =>
 doQ (Zp H 25 21 5 v6) fun v7 =>
 doQ (ZZ 21 26 v3) fun v8 =>
 doQ (Zp H 28 21 5 v8) fun v9 =>
 doQ (Zp H 30 21 5 v3) fun v10 =>
 doW (gY env.P false true H (Ref.mk 0 31 (Heap.gen H 0 31) 0) 76 4 (some [(0,v5),(1,v7),(2,v9),(3,v10)])) fun v11 H1 =>
 doW (Zt H1 32 76 76 x5 v11) fun v12 H2 =>
 doQ (Ze 3 15 1 x15) fun v13 =>
  GoL env Tryz.f124 0 lj [(15,v13),(5,v12),(13,x13),(14,x14)] H2 Q) (
 Q (.tup [x5,(.v (.int .i64 0))]) H)
theorem rQ(x15 x5 x13 x14:AV)(H:Heap)(Q:AV→Heap→Prop)(h : ∀g,lA g x15 x5 x13 x14 H Q):GoL env Tryz.f124 0 lj [(15,x15),(5,x5),(13,x13),(14,x14)] H Q:=c9 fun g=>bq (live:=vD) (cut:=vK) (n:=500) (Eq.mp (by kernel_rfl) (h g))
noncomputable def hU:Code:=(Tryz.f194.body).getD .skip
def kV:Nat→Option (List Nat):=fun i=>none
def k6:Nat→Bool:=fun i=>false
def dS(dep:Nat)(g:Nat→AV)(x0 x1:AV)(H:Heap)(Q:AV→Heap→Prop):Prop :=
 doQ (Z8 x0) fun v1 =>
 doQ (Zh 252 v1 2) fun v2 =>
 doQ (Zb H 4 v2) fun v3 =>
 gQ v3 false (ZD x0) fun v4 =>
 gQ v3 false (Z8 v4) fun v5 =>
 gQ v3 false (Zh 252 v5 0) fun v6 =>
 gQ v3 false (Zb H 76 v6) fun v7 =>
 gQ v3 false (ZT H dep 15 76 v7) fun v8 =>
 gQ v3 false (ZD x0) fun v9 =>
 gQ v3 false (Z8 v9) fun v10 =>
 gQ v3 false (Zh 252 v10 1) fun v11 =>
 gQ v3 false (Zb H 3 v11) fun v12 =>
 gQ v3 false (ZG 3 15 19 v8 v12) fun v13 =>
 gQ v3 false (ZD x1) fun v14 =>
 gQ v3 false (Zq 3 20 21 v13 v14) fun v15 =>
 doQ (Zm v3 v15) fun v16 =>
 doQ (Z8 x0) fun v17 =>
 doQ (Zh 252 v17 2) fun v18 =>
 doW (Zj H 4 v18 v16) fun v19 H1 =>
 doQ (Z8 x0) fun v20 =>
 doQ (Zh 252 v20 2) fun v21 =>
 doQ (Zb H1 4 v21) fun v22 =>
 br (some v22) (
 doW (nRes H1 (⟨(dep+1),31,Heap.gen H1 (dep+1) 31,0⟩:Ref) (sQ env.P (⟨(dep+1),31,Heap.gen H1 (dep+1) 31,0⟩:Ref) 76 (some x1) (some x1))) fun v23 H2 =>
 Q v23 H2) (
 doQ (Z8 x0) fun v23 =>
 doQ (Zh 252 v23 1) fun v24 =>
 doQ (Zb H1 3 v24) fun v25 =>
 doQ (Zu 3 35 36 v25 x1) fun v26 =>
 doQ (Z8 x0) fun v27 =>
 doQ (Zh 252 v27 1) fun v28 =>
 doW (Zj H1 3 v28 v26) fun v29 H2 =>
 doQ (Z8 x0) fun v30 =>
 doQ (Zh 252 v30 0) fun v31 =>
 doQ (Zb H2 76 v31) fun v32 =>
 doQ (Z8 x0) fun v33 =>
 doQ (Zh 252 v33 1) fun v34 =>
 doQ (Zb H2 3 v34) fun v35 =>
 doQ (ZG 3 47 48 v35 x1) fun v36 =>
 doQ (Z8 x0) fun v37 =>
 doQ (Zh 252 v37 1) fun v38 =>
 doQ (Zb H2 3 v38) fun v39 =>
 doQ (cw env.P (Heap.get H2) 76 (some v32) (oi v36) (oi v39) (some none)) fun v40 =>
 Q v40 H2)
theorem kQ(dep:Nat)(x0 x1:AV)(H:Heap)(Q:AV→Heap→Prop)(h : ∀g,dS dep g x0 x1 H Q):GoL env Tryz.f194 (dep+1) [.code hU] [(0,x0),(1,x1)] H Q:=⟨fun g=>bq (live:=kV) (cut:=k6) (n:=500) (Eq.mp (by kernel_rfl) (h g))⟩
noncomputable def iK:Code:=(Tryz.f195.body).getD .skip
def mc:Nat→Option (List Nat):=fun i=>none
def mh:Nat→Bool:=fun i=>false
def ej(dep:Nat)(g:Nat→AV)(x0 x1:AV)(H:Heap)(Q:AV→Heap→Prop):Prop :=
 doW (Z4 H dep 4 40) fun v1 H1 =>
 doW (cr env true (limf env) (limt env (dep+1)) H1 (⟨(dep+1),10,Heap.gen H1 (dep+1) 10,0⟩:Ref) (some (.fn (.func 194) [] [])) [x0,(.v (.int .i64 13))]) fun v2 H2 =>
 doW (cr env true (limf env) (limt env (dep+1)) H2 (⟨(dep+1),13,Heap.gen H2 (dep+1) 13,0⟩:Ref) (some (.fn (.func 203) [] [])) [v2]) fun v3 H3 =>
 doQ (Zy v3 0) fun v4 =>
 doQ (Zy v3 1) fun v5 =>
 doW (Z4 H3 dep 6 40) fun v6 H4 =>
 doW (Zj H4 40 v6 v4) fun v7 H5 =>
 gQ x1 true (ZD v2) fun v8 =>
 gW x1 true H5 (nRes H5 (⟨(dep+1),19,Heap.gen H5 (dep+1) 19,0⟩:Ref) (sQ env.P (⟨(dep+1),19,Heap.gen H5 (dep+1) 19,0⟩:Ref) 76 (some (AV.v (Value.int IntKind.i64 13))) (some (AV.v (Value.int IntKind.i64 13))))) fun v9 H6 =>
 gW x1 true H6 (cr env true (limf env) (limt env (dep+1)) H6 (⟨(dep+1),20,Heap.gen H6 (dep+1) 20,0⟩:Ref) (some (.fn (.func 87) [] [])) [v8,v9]) fun v10 H7 =>
 doQ (Zi x1 v10) fun v11 =>
 doQ (Z8 x0) fun v12 =>
 doQ (Zh 252 v12 2) fun v13 =>
 doQ (Zb H7 4 v13) fun v14 =>
 gQ v14 false (ZD v5) fun v15 =>
 gQ v14 false (Zc 30 28 0 v15) fun v16 =>
 gQ v14 false (ZD v16) fun v17 =>
 gQ v17 true (ZD v11) fun v18 =>
 gQ v17 true (ZA v18) fun v19 =>
 gQ v14 false (Zi v17 v19) fun v20 =>
 doQ (Zm v14 v20) fun v21 =>
 doQ (Z8 x0) fun v22 =>
 doQ (Zh 252 v22 2) fun v23 =>
 doW (Zj H7 4 v23 v21) fun v24 H8 =>
 doQ (Zb H8 40 v6) fun v25 =>
 doW (Zj H8 40 v1 v25) fun v26 H9 =>
 doQ (ZJ H9 v1 40) fun v27 =>
 Q v27 H9
theorem lY(dep:Nat)(x0 x1:AV)(H:Heap)(Q:AV→Heap→Prop)(h : ∀g,ej dep g x0 x1 H Q):GoL env Tryz.f195 (dep+1) [.code iK] [(0,x0),(1,x1)] H Q:=⟨fun g=>bq (live:=mc) (cut:=mh) (n:=500) (Eq.mp (by kernel_rfl) (h g))⟩
noncomputable def qT:Code:=(Tryz.f196.body).getD .skip
noncomputable def gp:List Item:=(iI 10006 400 [.code qT]).getD []
noncomputable def dA:Code:=rfA gp
noncomputable def dy:Code:=rfB gp
noncomputable def nK:List Item:=rfK gp
def qH:Nat→Option (List Nat):=fun i=>cond (Nat.beq i 10006) (some [16,2]) (none)
def qN:Nat→Bool:=fun i=>false
def vV(g:Nat→AV)(x0:AV)(H:Heap)(Q:AV→Heap→Prop):Prop :=
 doW (Zf H 2 43) fun v1 H1 =>
 doQ (Zg H1 8 76 x0) fun v2 =>
 doQ (Zr 3 8 256 v2) fun v3 =>
 br (some v3) (
 doW (Z2 H1 43 v1) fun v4 H2 =>
 doQ (ZJ H2 v1 43) fun v5 =>
 Q (.tup [v5,(.v (.int .i64 4))]) H2) (
 doQ (Zg H1 12 76 x0) fun v4 =>
 doQ (ZQ 3 12 4 v4) fun v5 =>
 doQ (Zr 3 13 0 v5) fun v6 =>
 br (some v6) (
 doW (Z2 H1 43 v1) fun v7 H2 =>
 doQ (ZJ H2 v1 43) fun v8 =>
 Q (.tup [v8,(.v (.int .i64 8))]) H2) (
 doW (Za true H1 16 107 [x0,(.v (.int .i64 4))]) fun v7 H2 =>
  GoL env Tryz.f196 0 gp [(16,v7),(2,v1)] H2 Q))
theorem Cs(x0:AV)(H:Heap)(Q:AV→Heap→Prop)(h : ∀g,vV g x0 H Q):GoL env Tryz.f196 0 [.code qT] [(0,x0)] H Q:=⟨fun g=>bq (live:=qH) (cut:=qN) (n:=500) (Eq.mp (by kernel_rfl) (h g))⟩
def jW(g:Nat→AV)(x2:AV)(H:Heap)(Q:AV→Heap→Prop):Prop :=
 doQ (Zb H 43 x2) fun v1 =>
 doW (Za true H 45 159 [v1]) fun v2 H1 =>
 doQ (Zc 30 46 0 v2) fun v3 =>
 br (some v3) (
 doW (Z2 H1 43 x2) fun v4 H2 =>
 doQ (ZJ H2 x2 43) fun v5 =>
 Q (.tup [v5,v2]) H2) (
 doQ (Zb H1 43 x2) fun v4 =>
 doW (Zj H1 43 x2 v4) fun v5 H2 =>
 doQ (ZJ H2 x2 43) fun v6 =>
 Q (.tup [v6,(.v (.int .i64 0))]) H2)
theorem sI(x2:AV)(H:Heap)(Q:AV→Heap→Prop)(h : ∀g,jW g x2 H Q):GoL env Tryz.f196 0 nK [(2,x2)] H Q:=⟨fun g=>bq (live:=qH) (cut:=qN) (n:=500) (Eq.mp (by kernel_rfl) (h g))⟩
def kM(r:Ref)(g:Nat→AV)(x2 x17:AV)(H:Heap)(Q:AV→Heap→Prop):Prop :=
 bgP (lpAt H r) fun i1 =>
 doQ (ak env.P (Heap.get (Heap.put H r (some (eY 1 i1)))) 43 (some x2)) fun v2 =>
 doQ (au env.P (Heap.get (Heap.put H r (some (eY 1 i1)))) 76 (some x17) (some (AV.v (Value.int IntKind.i64 0)))) fun v3 =>
 doQ (ak env.P (Heap.get (Heap.put H r (some (eY 1 i1)))) 5 (some v3)) fun v4 =>
 doQ (aX env.P (Heap.get (Heap.put H r (some (eY 1 i1)))) (⟨2,22,Heap.gen (Heap.put H r (some (eY 1 i1))) 2 22,0⟩:Ref) 5 34 (some v4)) fun v5 =>
 doQ (qBin env.P .shl 34 (Operand.tmp 22) (.const (.int .u64 24)) (some v5) (some (.v (.int .u64 24)))) fun v6 =>
 doQ (au env.P (Heap.get (Heap.put H r (some (eY 1 i1)))) 76 (some x17) (some (AV.v (Value.int IntKind.i64 1)))) fun v7 =>
 doQ (ak env.P (Heap.get (Heap.put H r (some (eY 1 i1)))) 5 (some v7)) fun v8 =>
 doQ (aX env.P (Heap.get (Heap.put H r (some (eY 1 i1)))) (⟨2,27,Heap.gen (Heap.put H r (some (eY 1 i1))) 2 27,0⟩:Ref) 5 34 (some v8)) fun v9 =>
 doQ (Yr 34 27 v9) fun v10 =>
 doQ (ZN 34 23 28 v6 v10) fun v11 =>
 doQ (au env.P (Heap.get (Heap.put H r (some (eY 1 i1)))) 76 (some x17) (some (AV.v (Value.int IntKind.i64 2)))) fun v12 =>
 doQ (ak env.P (Heap.get (Heap.put H r (some (eY 1 i1)))) 5 (some v12)) fun v13 =>
 doQ (aX env.P (Heap.get (Heap.put H r (some (eY 1 i1)))) (⟨2,33,Heap.gen (Heap.put H r (some (eY 1 i1))) 2 33,0⟩:Ref) 5 34 (some v13)) fun v14 =>
 doQ (ZL 34 33 v14) fun v15 =>
 doQ (ZN 34 29 34 v11 v15) fun v16 =>
 doQ (au env.P (Heap.get (Heap.put H r (some (eY 1 i1)))) 76 (some x17) (some (AV.v (Value.int IntKind.i64 3)))) fun v17 =>
 doQ (ak env.P (Heap.get (Heap.put H r (some (eY 1 i1)))) 5 (some v17)) fun v18 =>
 doQ (aX env.P (Heap.get (Heap.put H r (some (eY 1 i1)))) (⟨2,39,Heap.gen (Heap.put H r (some (eY 1 i1))) 2 39,0⟩:Ref) 5 34 (some v18)) fun v19 =>
 doQ (ZN 34 35 39 v16 v19) fun v20 =>
 doQ (aX env.P (Heap.get (Heap.put H r (some (eY 1 i1)))) (⟨2,41,Heap.gen (Heap.put H r (some (eY 1 i1))) 2 41,0⟩:Ref) 34 21 (some v20)) fun v21 =>
 doW (gY env.P true false (Heap.put H r (some (eY 1 i1))) (⟨2,42,Heap.gen (Heap.put H r (some (eY 1 i1))) 2 42,0⟩:Ref) 43 1 (some [(0,v21)])) fun v22 H1 =>
 doW (cz env.P true H1 (⟨2,43,Heap.gen H1 2 43,0⟩:Ref) (some 43) (some 43) v2 v22) fun v23 H2 =>
 doW (Zj H2 43 x2 v23) fun v24 H3 =>
 Q (.v (.int .i64 0)) H3
theorem ti(r:Ref)(x2 x17:AV)(H:Heap)(Q:AV→Heap→Prop)(h : ∀g,kM r g x2 x17 H Q):GoX env Tryz.f196 (some r) 2 [.code dA,.beginRound,.code dy] [(2,x2),(17,x17)] H Q:=⟨fun g=>bq (live:=qH) (cut:=qN) (n:=500) (Eq.mp (by kernel_rfl) (h g))⟩
noncomputable def sv:Code:=(Tryz.f197.body).getD .skip
def zt:Nat→Option (List Nat):=fun i=>none
def zM:Nat→Bool:=fun i=>false
def sH(g:Nat→AV)(x0:AV)(H:Heap)(Q:AV→Heap→Prop):Prop :=
 doQ (Z9 76 3 x0) fun v1 =>
 br (some v1) (
 Q (.v (.slice none 0 0)) H) (
 doW (gY env.P false true H (Ref.mk 0 5 (Heap.gen H 0 5) 0) 76 0 (some [])) fun v2 H1 =>
 doW (Zt H1 7 76 76 v2 x0) fun v3 H2 =>
 Q v3 H2)
theorem y9(x0:AV)(H:Heap)(Q:AV→Heap→Prop)(h : ∀g,sH g x0 H Q):GoL env Tryz.f197 0 [.code sv] [(0,x0)] H Q:=⟨fun g=>bq (live:=zt) (cut:=zM) (n:=500) (Eq.mp (by kernel_rfl) (h g))⟩
noncomputable def fJ:Code:=(Tryz.f107.body).getD .skip
def mD:Nat→Option (List Nat):=fun i=>none
def mI:Nat→Bool:=fun i=>false
def fM(g:Nat→AV)(x0 x1:AV)(H:Heap)(Q:AV→Heap→Prop):Prop :=
 doW (Zd H 2 76 x0) fun v1 H1 =>
 doW (Zd H1 3 3 x1) fun v2 H2 =>
 doQ (Zb H2 3 v2) fun v3 =>
 doQ (Zn 3 5 1 v3) fun v4 =>
 br (some v4) (
 doQ (qA env.P 9 (some (.v (.string ⟨#[99,97,110,110,111,116,32,98,101,32,108,101,115,115,32,116,104,97,110,32,49]⟩)))) fun v5 =>
 doQ (none) fun v6 =>
 doQ (sR (.func 145) (some []) (some [v1,v2])) fun v7 =>
 Q v7 H2) (
 doQ (sR (.func 145) (some []) (some [v1,v2])) fun v5 =>
 Q v5 H2)
theorem iS(x0 x1:AV)(H:Heap)(Q:AV→Heap→Prop)(h : ∀g,fM g x0 x1 H Q):GoL env Tryz.f107 0 [.code fJ] [(0,x0),(1,x1)] H Q:=⟨fun g=>bq (live:=mD) (cut:=mI) (n:=500) (Eq.mp (by kernel_rfl) (h g))⟩
noncomputable def su:Code:=(Tryz.f87.body).getD .skip
def zr:Nat→Option (List Nat):=fun i=>none
def zL:Nat→Bool:=fun i=>false
def jF(g:Nat→AV)(x0 x1:AV)(H:Heap)(Q:AV→Heap→Prop):Prop :=
 doQ (Zp H 6 76 9 x0) fun v1 =>
 doQ (Zp H 8 76 9 x1) fun v2 =>
 doQ (Zo 9 6 8 v1 v2) fun v3 =>
 Q v3 H
theorem y8(x0 x1:AV)(H:Heap)(Q:AV→Heap→Prop)(h : ∀g,jF g x0 x1 H Q):GoL env Tryz.f87 0 [.code su] [(0,x0),(1,x1)] H Q:=⟨fun g=>bq (live:=zr) (cut:=zL) (n:=500) (Eq.mp (by kernel_rfl) (h g))⟩
noncomputable def jg:Code:=(Tryz.f146.body).getD .skip
def nc:Nat→Option (List Nat):=fun i=>none
def ni:Nat→Bool:=fun i=>false
def jh(g:Nat→AV)(x0 x1:AV)(H:Heap)(Q:AV→Heap→Prop):Prop :=
 doQ (Zn 3 5 0 x1) fun v1 =>
 br (some v1) (
 doQ (Z3 9) fun v2 =>
 doQ (none) fun v3 =>
 doQ (ZK H 10 76 x0) fun v4 =>
 doQ (Zg H 12 76 x0) fun v5 =>
 doQ (ZG 3 10 12 v4 v5) fun v6 =>
 doQ (ZG 3 8 13 x1 v6) fun v7 =>
 doQ (Zr 3 15 0 v7) fun v8 =>
 br (some v8) (
 doQ (ZK H 19 76 x0) fun v9 =>
 doQ (ZE H 76 x0 v9) fun v10 =>
 doW (Zt H 22 76 3 v10 v7) fun v11 H1 =>
 doQ (Zg H1 24 76 x0) fun v12 =>
 doQ (ZE H1 76 v11 v12) fun v13 =>
 Q v13 H1) (
 Q x0 H)) (
 doQ (ZK H 10 76 x0) fun v2 =>
 doQ (Zg H 12 76 x0) fun v3 =>
 doQ (ZG 3 10 12 v2 v3) fun v4 =>
 doQ (ZG 3 8 13 x1 v4) fun v5 =>
 doQ (Zr 3 15 0 v5) fun v6 =>
 br (some v6) (
 doQ (ZK H 19 76 x0) fun v7 =>
 doQ (ZE H 76 x0 v7) fun v8 =>
 doW (Zt H 22 76 3 v8 v5) fun v9 H1 =>
 doQ (Zg H1 24 76 x0) fun v10 =>
 doQ (ZE H1 76 v9 v10) fun v11 =>
 Q v11 H1) (
 Q x0 H))
theorem mT(x0 x1:AV)(H:Heap)(Q:AV→Heap→Prop)(h : ∀g,jh g x0 x1 H Q):GoL env Tryz.f146 0 [.code jg] [(0,x0),(1,x1)] H Q:=⟨fun g=>bq (live:=nc) (cut:=ni) (n:=500) (Eq.mp (by kernel_rfl) (h g))⟩
noncomputable def dX:Code:=(Tryz.f145.body).getD .skip
noncomputable def cC:List Item:=(cm 1 400 [.code dX]).getD []
def ic:Nat→Option (List Nat):=fun i=>cond (Nat.beq i 1) (some [2,4,1,0]) (none)
def ik:Nat→Bool:=fun i=>false
def fq(dep:Nat)(g:Nat→AV)(x0 x1 x2:AV)(H:Heap)(Q:AV→Heap→Prop):Prop :=
 GoL env Tryz.f145 (dep+1) cC [(2,x2),(4,(.v (.int .i64 0))),(1,x1),(0,x0)] H Q
theorem hY(dep:Nat)(x0 x1 x2:AV)(H:Heap)(Q:AV→Heap→Prop)(h : ∀g,fq dep g x0 x1 x2 H Q):GoL env Tryz.f145 (dep+1) [.code dX] [(0,x0),(1,x1),(2,x2)] H Q:=⟨fun g=>bq (live:=ic) (cut:=ik) (n:=500) (Eq.mp (by kernel_rfl) (h g))⟩
def cD(dep:Nat)(g:Nat→AV)(x2 x4 x1 x0:AV)(H:Heap)(Q:AV→Heap→Prop):Prop :=
 doQ (Zb H 76 x1) fun v1 =>
 doQ (ZT H dep 8 76 v1) fun v2 =>
 doQ (Zq 3 6 8 x4 v2) fun v3 =>
 br (some v3) (
 doQ (Zb H 3 x2) fun v4 =>
 doQ (Zb H 76 x1) fun v5 =>
 doQ (ZF H 76 v5 x4) fun v6 =>
 doQ (ZT H dep 17 76 v6) fun v7 =>
 doQ (az env.P true (Heap.get H) (⟨(dep+1),18,Heap.gen H (dep+1) 18,0⟩:Ref) .min #[3,3] [v4,v7]) fun v8 =>
 doQ (Zb H 76 x1) fun v9 =>
 doQ (Zu 3 22 23 x4 v8) fun v10 =>
 doQ (Zu 3 25 26 x4 v8) fun v11 =>
 doQ (cw env.P (Heap.get H) 76 (some v9) (oi x4) (oi v10) (oi v11)) fun v12 =>
 doW (cr env true (limf env) (limt env (dep+1)) H (⟨(dep+1),29,Heap.gen H (dep+1) 29,0⟩:Ref) (some x0) [v12]) fun v13 H1 =>
 doQ (ZA v13) fun v14 =>
 br (some v14) (
 Q (.v (.tuple #[])) H1) (
 doQ (Zb H1 3 x2) fun v15 =>
 doQ (Zu 3 10 11 x4 v15) fun v16 =>
  GoL env Tryz.f145 (dep+1) cC [(2,x2),(4,v16),(1,x1),(0,x0)] H1 Q)) (
 Q (.v (.tuple #[])) H)
theorem dc(dep:Nat)(x2 x4 x1 x0:AV)(H:Heap)(Q:AV→Heap→Prop)(h : ∀g,cD dep g x2 x4 x1 x0 H Q):GoL env Tryz.f145 (dep+1) cC [(2,x2),(4,x4),(1,x1),(0,x0)] H Q:=c9 fun g=>bq (live:=ic) (cut:=ik) (n:=500) (Eq.mp (by kernel_rfl) (h g))
end Go.Proofs.YtiidajnodhkidaaGreat
