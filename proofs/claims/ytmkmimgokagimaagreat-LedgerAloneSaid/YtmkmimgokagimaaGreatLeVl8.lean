/-
  What is to be shown of each function, computed from its code. No statement of a seat is proved here.
-/
import Derived.Test.YtmkmimgokagimaaGreatLeTy
set_option linter.unusedVariables false
set_option maxRecDepth 1000000
namespace Go.Proofs.YtmkmimgokagimaaGreat
open Go.Ab
noncomputable def ic:Code:=(Tryz.f8.body).getD .skip
def mU:Nat→Option (List Nat):=fun i=>none
def mZ:Nat→Bool:=fun i=>false
def aZ(g:Nat→AV)(x0 x1 x2 x3 x4 x5:AV)(H:Heap)(Q:AV→Heap→Prop):Prop :=
 doW (Zc H 6 25 x0) fun v1 H1 =>
 doW (Zc H1 8 38 x2) fun v2 H2 =>
 doW (Zc H2 9 31 x3) fun v3 H3 =>
 doW (Zc H3 11 29 x5) fun v4 H4 =>
 doW (Za true H4 42 36 []) fun v5 H5 =>
 doQ (Zb H5 25 v1) fun v6 =>
 doW (Za true H5 45 13 [v6,x1,(.v (.int .i64 25))]) fun v7 H6 =>
 gQ v7 false (Zd 38 v2 6) fun v8 =>
 gQ v7 false (Zb H6 36 v8) fun v9 =>
 gQ v7 false (Zh H6 49 36 v9) fun v10 =>
 gQ v7 false (Zr 3 49 300 v10) fun v11 =>
 doQ (Zl v7 v11) fun v12 =>
 gQ v12 false (ZF v5) fun v13 =>
 gQ v12 false (ZE v13) fun v14 =>
 doQ (Zl v12 v14) fun v15 =>
 br (some v15) (
 Q v5 H6) (
 doQ (Zb H6 25 v1) fun v16 =>
 doQ (Zb H6 29 v4) fun v17 =>
 doW (Za true H6 61 19 [v16,x1,v17]) fun v18 H7 =>
 doQ (Zx v18 0) fun v19 =>
 doQ (Zx v18 1) fun v20 =>
 doQ (Ze 42 64 0 v20) fun v21 =>
 br (some v21) (
 gQ v5 true (ZF v19) fun v22 =>
 gQ v5 true (Zh H7 69 26 v22) fun v23 =>
 gQ v5 true (Zk 3 69 0 v23) fun v24 =>
 doQ (Zg v5 v24) fun v25 =>
 Q v25 H7) (
 doQ (Zb H7 25 v1) fun v22 =>
 doW (Za true H7 75 25 [v22,x1]) fun v23 H8 =>
 doQ (Zx v23 0) fun v24 =>
 doQ (Zx v23 1) fun v25 =>
 doW (Zj H8 16 25) fun v26 H9 =>
 doW (Zo H9 25 v26 v24) fun v27 H10 =>
 doQ (Zb H10 25 v1) fun v28 =>
 doW (Za true H10 81 25 [v28,v19]) fun v29 H11 =>
 doQ (Zx v29 0) fun v30 =>
 doQ (Zx v29 1) fun v31 =>
 doW (Zj H11 18 25) fun v32 H12 =>
 doW (Zo H12 25 v32 v30) fun v33 H13 =>
 doQ (Zb H13 25 v1) fun v34 =>
 doW (Za true H13 87 15 [v34,x1]) fun v35 H14 =>
 doQ (Zx v35 0) fun v36 =>
 doQ (Zx v35 1) fun v37 =>
 doQ (Zb H14 25 v1) fun v38 =>
 doW (Za true H14 93 15 [v38,v19]) fun v39 H15 =>
 doQ (Zx v39 0) fun v40 =>
 doQ (Zx v39 1) fun v41 =>
 doQ (Zb H15 29 v4) fun v42 =>
 doW (Za true H15 99 45 [v36,v42]) fun v43 H16 =>
 doQ (Zx v43 0) fun v44 =>
 doQ (Zx v43 1) fun v45 =>
 doQ (Ze 42 102 0 v25) fun v46 =>
 gQ v46 false (ZF v31) fun v47 =>
 gQ v46 false (Ze 42 105 0 v47) fun v48 =>
 doQ (Zl v46 v48) fun v49 =>
 gQ v49 false (ZF v37) fun v50 =>
 gQ v49 false (Ze 42 109 0 v50) fun v51 =>
 doQ (Zl v49 v51) fun v52 =>
 gQ v52 false (ZF v41) fun v53 =>
 gQ v52 false (Ze 42 113 0 v53) fun v54 =>
 doQ (Zl v52 v54) fun v55 =>
 gQ v55 false (ZF v45) fun v56 =>
 gQ v55 false (Ze 42 117 0 v56) fun v57 =>
 doQ (Zl v55 v57) fun v58 =>
 gQ v58 false (Zb H16 25 v26) fun v59 =>
 gQ v58 false (Zb H16 25 v32) fun v60 =>
 gW v58 false H16 (Za true H16 123 46 [v59,v60]) fun v61 H17 =>
 gQ v58 false (ZE v61) fun v62 =>
 doQ (Zl v58 v62) fun v63 =>
 gQ v63 false (ZF v40) fun v64 =>
 gQ v63 false (ZF v44) fun v65 =>
 gW v63 false H17 (Za true H17 129 21 [v64,v65]) fun v66 H18 =>
 gQ v63 false (ZE v66) fun v67 =>
 doQ (Zl v63 v67) fun v68 =>
 gQ v68 false (Zb H18 25 v1) fun v69 =>
 gQ v68 false (ZF v19) fun v70 =>
 gW v68 false H18 (Za true H18 135 34 [v69,v70]) fun v71 H19 =>
 gQ v68 false (Ze 42 135 0 v71) fun v72 =>
 doQ (Zl v68 v72) fun v73 =>
 br (some v73) (
 Q (.v (.bool false)) H19) (
 doQ (Zd 31 v3 0) fun v74 =>
 doQ (Zb H19 29 v74) fun v75 =>
 doQ (Zb H19 29 v4) fun v76 =>
 doW (Za true H19 141 47 [v75,v76]) fun v77 H20 =>
 br (some v77) (
 doQ (Zb H20 25 v1) fun v78 =>
 doQ (Zb H20 31 v3) fun v79 =>
 doW (Za true H20 146 27 [v78,x1,v79]) fun v80 H21 =>
 doQ (Zx v80 0) fun v81 =>
 doQ (Zx v80 1) fun v82 =>
 doW (Zj H21 26 73) fun v83 H22 =>
 doW (Zo H22 73 v83 v81) fun v84 H23 =>
 doQ (Zb H23 25 v1) fun v85 =>
 doQ (Zb H23 31 v3) fun v86 =>
 doW (Za true H23 153 27 [v85,v19,v86]) fun v87 H24 =>
 doQ (Zx v87 0) fun v88 =>
 doQ (Zx v87 1) fun v89 =>
 doW (Zj H24 28 73) fun v90 H25 =>
 doW (Zo H25 73 v90 v88) fun v91 H26 =>
 doQ (Zb H26 25 v1) fun v92 =>
 doQ (Zb H26 31 v3) fun v93 =>
 doW (Za true H26 161 29 [v92,x1,v93,x4]) fun v94 H27 =>
 doQ (Zx v94 0) fun v95 =>
 doQ (Zx v94 1) fun v96 =>
 doQ (Zb H27 25 v1) fun v97 =>
 doQ (Zb H27 31 v3) fun v98 =>
 doW (Za true H27 169 29 [v97,v19,v98,x4]) fun v99 H28 =>
 doQ (Zx v99 0) fun v100 =>
 doQ (Zx v99 1) fun v101 =>
 doQ (Zb H28 25 v1) fun v102 =>
 doQ (Zd 31 v3 0) fun v103 =>
 doQ (Zb H28 29 v103) fun v104 =>
 doW (Za true H28 177 31 [v102,x1,v104]) fun v105 H29 =>
 doQ (Zx v105 0) fun v106 =>
 doQ (Zx v105 1) fun v107 =>
 doW (Zj H29 34 81) fun v108 H30 =>
 doW (Zo H30 81 v108 v106) fun v109 H31 =>
 doQ (Zb H31 25 v1) fun v110 =>
 doQ (Zd 31 v3 0) fun v111 =>
 doQ (Zb H31 29 v111) fun v112 =>
 doW (Za true H31 185 31 [v110,v19,v112]) fun v113 H32 =>
 doQ (Zx v113 0) fun v114 =>
 doQ (Zx v113 1) fun v115 =>
 doW (Zj H32 36 81) fun v116 H33 =>
 doW (Zo H33 81 v116 v114) fun v117 H34 =>
 doQ (Zb H34 73 v83) fun v118 =>
 doQ (Zb H34 73 v90) fun v119 =>
 doQ (Zv 73 188 189 v118 v119) fun v120 =>
 gQ v120 false (ZF v82) fun v121 =>
 gQ v120 false (ZF v89) fun v122 =>
 gQ v120 false (Zv 42 192 193 v121 v122) fun v123 =>
 doQ (Zl v120 v123) fun v124 =>
 gQ v124 false (ZF v95) fun v125 =>
 gQ v124 false (ZF v100) fun v126 =>
 gQ v124 false (Zv 42 197 198 v125 v126) fun v127 =>
 doQ (Zl v124 v127) fun v128 =>
 gQ v128 false (ZF v96) fun v129 =>
 gQ v128 false (ZF v101) fun v130 =>
 gQ v128 false (Zv 42 202 203 v129 v130) fun v131 =>
 doQ (Zl v128 v131) fun v132 =>
 gQ v132 false (Zb H34 81 v108) fun v133 =>
 gQ v132 false (Zb H34 81 v116) fun v134 =>
 gQ v132 false (Zv 81 207 208 v133 v134) fun v135 =>
 doQ (Zl v132 v135) fun v136 =>
 gQ v136 false (ZF v107) fun v137 =>
 gQ v136 false (ZF v115) fun v138 =>
 gQ v136 false (Zv 42 212 213 v137 v138) fun v139 =>
 doQ (Zl v136 v139) fun v140 =>
 br (some v140) (
 Q (.v (.bool false)) H34) (
 doQ (Zd 38 v2 1) fun v141 =>
 doQ (Zd 31 v141 0) fun v142 =>
 doQ (Zb H34 29 v142) fun v143 =>
 doQ (Zb H34 29 v4) fun v144 =>
 doW (Za true H34 220 47 [v143,v144]) fun v145 H35 =>
 br (some v145) (
 doQ (Zb H35 25 v1) fun v146 =>
 doQ (Zb H35 38 v2) fun v147 =>
 doW (Za true H35 225 17 [v146,x1,v147]) fun v148 H36 =>
 doQ (Zx v148 0) fun v149 =>
 doQ (Zx v148 1) fun v150 =>
 doQ (Zb H36 25 v1) fun v151 =>
 doQ (Zb H36 38 v2) fun v152 =>
 doW (Za true H36 232 17 [v151,v19,v152]) fun v153 H37 =>
 doQ (Zx v153 0) fun v154 =>
 doQ (Zx v153 1) fun v155 =>
 gQ v5 true (ZF v149) fun v156 =>
 gQ v5 true (ZF v154) fun v157 =>
 gQ v5 true (Zn 42 237 238 v156 v157) fun v158 =>
 doQ (Zg v5 v158) fun v159 =>
 gQ v159 true (ZF v150) fun v160 =>
 gQ v159 true (ZF v155) fun v161 =>
 gQ v159 true (Zn 42 242 243 v160 v161) fun v162 =>
 doQ (Zg v159 v162) fun v163 =>
 Q v163 H37) (
 Q v5 H35))) (
 doQ (Zd 38 v2 1) fun v78 =>
 doQ (Zd 31 v78 0) fun v79 =>
 doQ (Zb H20 29 v79) fun v80 =>
 doQ (Zb H20 29 v4) fun v81 =>
 doW (Za true H20 220 47 [v80,v81]) fun v82 H21 =>
 br (some v82) (
 doQ (Zb H21 25 v1) fun v83 =>
 doQ (Zb H21 38 v2) fun v84 =>
 doW (Za true H21 225 17 [v83,x1,v84]) fun v85 H22 =>
 doQ (Zx v85 0) fun v86 =>
 doQ (Zx v85 1) fun v87 =>
 doQ (Zb H22 25 v1) fun v88 =>
 doQ (Zb H22 38 v2) fun v89 =>
 doW (Za true H22 232 17 [v88,v19,v89]) fun v90 H23 =>
 doQ (Zx v90 0) fun v91 =>
 doQ (Zx v90 1) fun v92 =>
 gQ v5 true (ZF v86) fun v93 =>
 gQ v5 true (ZF v91) fun v94 =>
 gQ v5 true (Zn 42 237 238 v93 v94) fun v95 =>
 doQ (Zg v5 v95) fun v96 =>
 gQ v96 true (ZF v87) fun v97 =>
 gQ v96 true (ZF v92) fun v98 =>
 gQ v96 true (Zn 42 242 243 v97 v98) fun v99 =>
 doQ (Zg v96 v99) fun v100 =>
 Q v100 H23) (
 Q v5 H21)))))
theorem mN(x0 x1 x2 x3 x4 x5:AV)(H:Heap)(Q:AV→Heap→Prop)(h : ∀g,aZ g x0 x1 x2 x3 x4 x5 H Q):GoL env Tryz.f8 0 [.code ic] [(0,x0),(1,x1),(2,x2),(3,x3),(4,x4),(5,x5)] H Q:=⟨fun g=>aH (live:=mU) (cut:=mZ) (n:=500) (Eq.mp (by kernel_rfl) (h g))⟩
end Go.Proofs.YtmkmimgokagimaaGreat
