/-
  What is to be shown of each function, computed from its code. No statement of a seat is proved here.
-/
import Derived.Test.YtmkmimgokagimaaGreatLeTy
set_option linter.unusedVariables false
set_option maxRecDepth 1000000
namespace Go.Proofs.YtmkmimgokagimaaGreat
open Go.Ab
noncomputable def iD:Code:=(Tryz.f11.body).getD .skip
def mU:Nat→Option (List Nat):=fun i=>none
def mW:Nat→Bool:=fun i=>false
def aj(g:Nat→AV)(x0 x1 x2 x3 x4:AV)(H:Heap)(Q:AV→Heap→Prop):Prop :=
 doW (Zc H 5 25 x0) fun v1 H1 =>
 doW (Zc H1 7 31 x2) fun v2 H2 =>
 doW (Zc H2 9 38 x4) fun v3 H3 =>
 doW (Za true H3 26 53 []) fun v4 H4 =>
 doQ (Zb H4 25 v1) fun v5 =>
 doW (Za true H4 29 13 [v5,x1,(.v (.int .i64 25))]) fun v6 H5 =>
 gQ v6 false (Zd 38 v3 6) fun v7 =>
 gQ v6 false (Zb H5 36 v7) fun v8 =>
 gQ v6 false (Zk H5 33 36 v8) fun v9 =>
 gQ v6 false (Zr 3 33 300 v9) fun v10 =>
 doQ (Zo v6 v10) fun v11 =>
 gQ v11 false (ZI v4) fun v12 =>
 gQ v11 false (Zz v12) fun v13 =>
 doQ (Zo v11 v13) fun v14 =>
 br (some v14) (
 Q v4 H5) (
 doQ (Zb H5 25 v1) fun v15 =>
 doQ (Zb H5 31 v2) fun v16 =>
 doW (Za true H5 46 49 [v15,x1,v16,x3]) fun v17 H6 =>
 doQ (Zw v17 0) fun v18 =>
 doQ (Zw v17 1) fun v19 =>
 doW (Zg H6 12 107) fun v20 H7 =>
 doW (Zl H7 107 v20 v18) fun v21 H8 =>
 doQ (Zi 42 49 0 v19) fun v22 =>
 gQ v22 true (Zd 107 v20 1) fun v23 =>
 gQ v22 true (Zb H8 4 v23) fun v24 =>
 doQ (Zf v22 v24) fun v25 =>
 br (some v25) (
 doQ (Zb H8 25 v1) fun v26 =>
 doQ (Zd 107 v20 2) fun v27 =>
 doQ (Zb H8 62 v27) fun v28 =>
 doW (Za true H8 60 23 [v26,x1,v28]) fun v29 H9 =>
 doQ (Zw v29 0) fun v30 =>
 doQ (Zw v29 1) fun v31 =>
 doQ (Zb H9 25 v1) fun v32 =>
 doW (ZY H9 66 26 26 x1) fun v33 H10 =>
 doQ (Zd 107 v20 2) fun v34 =>
 doQ (Zb H10 62 v34) fun v35 =>
 doW (ZR H10 69 26 1 0 v35) fun v36 H11 =>
 doW (Zt H11 70 26 26 v33 v36) fun v37 H12 =>
 doQ (Zb H12 31 v2) fun v38 =>
 doW (Za false H12 73 49 [v32,v37,v38,x3]) fun v39 H13 =>
 doQ (Zw v39 0) fun v40 =>
 doQ (Zw v39 1) fun v41 =>
 doW (Zg H13 16 107) fun v42 H14 =>
 doW (Zl H14 107 v42 v40) fun v43 H15 =>
  jn [(v1,v33),(v33,v2)] [v42] [] H15 ∧
 (doQ (Ze 42 76 0 v31) fun v44 =>
 gQ v44 false (ZI v30) fun v45 =>
 gQ v44 false (Zz v45) fun v46 =>
 doQ (Zo v44 v46) fun v47 =>
 gQ v47 false (ZI v41) fun v48 =>
 gQ v47 false (Ze 42 83 0 v48) fun v49 =>
 doQ (Zo v47 v49) fun v50 =>
 gQ v50 false (Zd 107 v42 1) fun v51 =>
 gQ v50 false (Zb H15 4 v51) fun v52 =>
 doQ (Zo v50 v52) fun v53 =>
 gQ v53 false (Zd 107 v42 0) fun v54 =>
 gQ v53 false (Zb H15 42 v54) fun v55 =>
 gQ v53 false (Zd 107 v20 0) fun v56 =>
 gQ v53 false (Zb H15 42 v56) fun v57 =>
 gQ v53 false (ZB 42 92 94 v55 v57) fun v58 =>
 doQ (Zo v53 v58) fun v59 =>
 br (some v59) (
 Q (.v (.bool false)) H15) (
 doQ (Zb H15 25 v1) fun v60 =>
 doQ (Zb H15 31 v2) fun v61 =>
 doQ (Zb H15 38 v3) fun v62 =>
 doW (Za true H15 102 52 [v60,x1,v61,v62]) fun v63 H16 =>
 doQ (Zw v63 0) fun v64 =>
 doQ (Zw v63 1) fun v65 =>
 doW (Zg H16 18 107) fun v66 H17 =>
 doW (Zl H17 107 v66 v64) fun v67 H18 =>
 doQ (Ze 42 105 0 v65) fun v68 =>
 br (some v68) (
 gQ v4 true (Zd 107 v66 1) fun v69 =>
 gQ v4 true (Zb H18 4 v69) fun v70 =>
 gQ v4 true (Zz v70) fun v71 =>
 doQ (Zf v4 v71) fun v72 =>
 Q v72 H18) (
 doQ (Zd 107 v66 1) fun v69 =>
 doQ (Zb H18 4 v69) fun v70 =>
 doQ (Zz v70) fun v71 =>
 br (some v71) (
 doQ (Zb H18 25 v1) fun v72 =>
 doQ (Zb H18 31 v2) fun v73 =>
 doQ (Zb H18 38 v3) fun v74 =>
 doW (Za true H18 121 52 [v72,x1,v73,v74]) fun v75 H19 =>
 doQ (Zw v75 0) fun v76 =>
 doQ (Zw v75 1) fun v77 =>
 doW (Zg H19 20 107) fun v78 H20 =>
 doW (Zl H20 107 v78 v76) fun v79 H21 =>
 gQ v4 true (ZI v77) fun v80 =>
 gQ v4 true (Zi 42 126 0 v80) fun v81 =>
 doQ (Zf v4 v81) fun v82 =>
 gQ v82 true (Zb H21 107 v78) fun v83 =>
 gQ v82 true (Zb H21 107 v66) fun v84 =>
 gW v82 true H21 (Za true H21 132 61 [v83,v84]) fun v85 H22 =>
 doQ (Zf v82 v85) fun v86 =>
 Q v86 H22) (
 doQ (Zb H18 25 v1) fun v72 =>
 doQ (Zd 107 v66 2) fun v73 =>
 doQ (Zb H18 62 v73) fun v74 =>
 doW (Za true H18 139 23 [v72,x1,v74]) fun v75 H19 =>
 doQ (Zw v75 0) fun v76 =>
 doQ (Zw v75 1) fun v77 =>
 doQ (Zb H19 25 v1) fun v78 =>
 doW (ZY H19 145 26 26 x1) fun v79 H20 =>
 doQ (Zd 107 v66 2) fun v80 =>
 doQ (Zb H20 62 v80) fun v81 =>
 doW (ZR H20 148 26 1 0 v81) fun v82 H21 =>
 doW (Zt H21 149 26 26 v79 v82) fun v83 H22 =>
 doQ (Zb H22 31 v2) fun v84 =>
 doQ (Zb H22 38 v3) fun v85 =>
 doW (Za false H22 152 52 [v78,v83,v84,v85]) fun v86 H23 =>
 doQ (Zw v86 0) fun v87 =>
 doQ (Zw v86 1) fun v88 =>
 doW (Zg H23 24 107) fun v89 H24 =>
 doW (Zl H24 107 v89 v87) fun v90 H25 =>
  jn [(v1,v79),(v79,v2),(v79,v3)] [v89] [] H25 ∧
 (gQ v4 true (ZI v77) fun v91 =>
 gQ v4 true (Zi 42 157 0 v91) fun v92 =>
 doQ (Zf v4 v92) fun v93 =>
 gQ v93 true (ZI v76) fun v94 =>
 doQ (Zf v93 v94) fun v95 =>
 gQ v95 true (ZI v88) fun v96 =>
 gQ v95 true (Zi 42 164 0 v96) fun v97 =>
 doQ (Zf v95 v97) fun v98 =>
 gQ v98 true (Zd 107 v89 1) fun v99 =>
 gQ v98 true (Zb H25 4 v99) fun v100 =>
 gQ v98 true (Zz v100) fun v101 =>
 doQ (Zf v98 v101) fun v102 =>
 gQ v102 true (Zd 107 v89 0) fun v103 =>
 gQ v102 true (Zb H25 42 v103) fun v104 =>
 gQ v102 true (Zd 107 v66 0) fun v105 =>
 gQ v102 true (Zb H25 42 v105) fun v106 =>
 gQ v102 true (Zm 42 174 176 v104 v106) fun v107 =>
 doQ (Zf v102 v107) fun v108 =>
 gQ v108 true (Zd 107 v66 2) fun v109 =>
 gQ v108 true (Zd 62 v109 3) fun v110 =>
 gQ v108 true (Zb H25 42 v110) fun v111 =>
 gQ v108 true (Zd 107 v66 0) fun v112 =>
 gQ v108 true (Zb H25 42 v112) fun v113 =>
 gQ v108 true (Zm 42 182 184 v111 v113) fun v114 =>
 doQ (Zf v108 v114) fun v115 =>
 Q v115 H25)))))) (
 doQ (Zb H8 25 v1) fun v26 =>
 doQ (Zb H8 31 v2) fun v27 =>
 doQ (Zb H8 38 v3) fun v28 =>
 doW (Za true H8 102 52 [v26,x1,v27,v28]) fun v29 H9 =>
 doQ (Zw v29 0) fun v30 =>
 doQ (Zw v29 1) fun v31 =>
 doW (Zg H9 18 107) fun v32 H10 =>
 doW (Zl H10 107 v32 v30) fun v33 H11 =>
 doQ (Ze 42 105 0 v31) fun v34 =>
 br (some v34) (
 gQ v4 true (Zd 107 v32 1) fun v35 =>
 gQ v4 true (Zb H11 4 v35) fun v36 =>
 gQ v4 true (Zz v36) fun v37 =>
 doQ (Zf v4 v37) fun v38 =>
 Q v38 H11) (
 doQ (Zd 107 v32 1) fun v35 =>
 doQ (Zb H11 4 v35) fun v36 =>
 doQ (Zz v36) fun v37 =>
 br (some v37) (
 doQ (Zb H11 25 v1) fun v38 =>
 doQ (Zb H11 31 v2) fun v39 =>
 doQ (Zb H11 38 v3) fun v40 =>
 doW (Za true H11 121 52 [v38,x1,v39,v40]) fun v41 H12 =>
 doQ (Zw v41 0) fun v42 =>
 doQ (Zw v41 1) fun v43 =>
 doW (Zg H12 20 107) fun v44 H13 =>
 doW (Zl H13 107 v44 v42) fun v45 H14 =>
 gQ v4 true (ZI v43) fun v46 =>
 gQ v4 true (Zi 42 126 0 v46) fun v47 =>
 doQ (Zf v4 v47) fun v48 =>
 gQ v48 true (Zb H14 107 v44) fun v49 =>
 gQ v48 true (Zb H14 107 v32) fun v50 =>
 gW v48 true H14 (Za true H14 132 61 [v49,v50]) fun v51 H15 =>
 doQ (Zf v48 v51) fun v52 =>
 Q v52 H15) (
 doQ (Zb H11 25 v1) fun v38 =>
 doQ (Zd 107 v32 2) fun v39 =>
 doQ (Zb H11 62 v39) fun v40 =>
 doW (Za true H11 139 23 [v38,x1,v40]) fun v41 H12 =>
 doQ (Zw v41 0) fun v42 =>
 doQ (Zw v41 1) fun v43 =>
 doQ (Zb H12 25 v1) fun v44 =>
 doW (ZY H12 145 26 26 x1) fun v45 H13 =>
 doQ (Zd 107 v32 2) fun v46 =>
 doQ (Zb H13 62 v46) fun v47 =>
 doW (ZR H13 148 26 1 0 v47) fun v48 H14 =>
 doW (Zt H14 149 26 26 v45 v48) fun v49 H15 =>
 doQ (Zb H15 31 v2) fun v50 =>
 doQ (Zb H15 38 v3) fun v51 =>
 doW (Za false H15 152 52 [v44,v49,v50,v51]) fun v52 H16 =>
 doQ (Zw v52 0) fun v53 =>
 doQ (Zw v52 1) fun v54 =>
 doW (Zg H16 24 107) fun v55 H17 =>
 doW (
  aC env.P H17 107 (some v55) (some v53)) fun v56 H18 =>
  jn [(v1,v45),(v45,v2),(v45,v3)] [v55] [] H18 ∧
 (gQ v4 true (ZI v43) fun v57 =>
 gQ v4 true (Zi 42 157 0 v57) fun v58 =>
 doQ (Zf v4 v58) fun v59 =>
 gQ v59 true (ZI v42) fun v60 =>
 doQ (Zf v59 v60) fun v61 =>
 gQ v61 true (ZI v54) fun v62 =>
 gQ v61 true (Zi 42 164 0 v62) fun v63 =>
 doQ (Zf v61 v63) fun v64 =>
 gQ v64 true (Zd 107 v55 1) fun v65 =>
 gQ v64 true (Zb H18 4 v65) fun v66 =>
 gQ v64 true (Zz v66) fun v67 =>
 doQ (Zf v64 v67) fun v68 =>
 gQ v68 true (Zd 107 v55 0) fun v69 =>
 gQ v68 true (Zb H18 42 v69) fun v70 =>
 gQ v68 true (Zd 107 v32 0) fun v71 =>
 gQ v68 true (Zb H18 42 v71) fun v72 =>
 gQ v68 true (Zm 42 174 176 v70 v72) fun v73 =>
 doQ (Zf v68 v73) fun v74 =>
 gQ v74 true (Zd 107 v32 2) fun v75 =>
 gQ v74 true (Zd 62 v75 3) fun v76 =>
 gQ v74 true (Zb H18 42 v76) fun v77 =>
 gQ v74 true (Zd 107 v32 0) fun v78 =>
 gQ v74 true (Zb H18 42 v78) fun v79 =>
 gQ v74 true (Zm 42 182 184 v77 v79) fun v80 =>
 doQ (Zf v74 v80) fun v81 =>
 Q v81 H18)))))
theorem mS(x0 x1 x2 x3 x4:AV)(H:Heap)(Q:AV→Heap→Prop)(h : ∀g,aj g x0 x1 x2 x3 x4 H Q):GoL env Tryz.f11 0 [.code iD] [(0,x0),(1,x1),(2,x2),(3,x3),(4,x4)] H Q:=⟨fun g=>aJ (live:=mU) (cut:=mW) (n:=500) (Eq.mp (by kernel_rfl) (h g))⟩
end Go.Proofs.YtmkmimgokagimaaGreat
