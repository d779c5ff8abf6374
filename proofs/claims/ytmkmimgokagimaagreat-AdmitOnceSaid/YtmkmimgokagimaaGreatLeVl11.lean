/-
  What is to be shown of each function, computed from its code. No statement of a seat is proved here.
-/
import Derived.Test.YtmkmimgokagimaaGreatLeTy
set_option linter.unusedVariables false
set_option maxRecDepth 1000000
namespace Go.Proofs.YtmkmimgokagimaaGreat
open Go.Ab
local notation:max "©" b:max h:max n:max f:max a:max=>aG env b (limf env) (limt env 0) h (Ref.mk 0 n (Heap.gen h 0 n) 0) (some (AV.fn (Fn.func f) [] [])) a
local notation:max "§" h:max n:max=>Ref.mk 0 n (Heap.gen h 0 n) 0
local notation:max "~" a:max=>some a
local notation:max "¥" h:max=>Heap.get h
local notation:max "¤" n:max=>(Operand.const (Value.int IntKind.i64 n))
local notation:max "£" n:max=>some (AV.v (Value.int IntKind.i64 n))
local notation:max "¡" => some (AV.v (Value.bool true))
local notation:max "¿" => some (AV.v (Value.bool false))
local notation:max "°" n:max=>(Operand.tmp n)
local notation:max "¢" => env.P
noncomputable def iD:Code:=(Tryz.f11.body).getD .skip
def mU:Nat→Option (List Nat):=fun i=>none
def mW:Nat→Bool:=fun i=>false
def aj(g:Nat→AV)(x0 x1 x2 x3 x4:AV)(H:Heap)(Q:AV→Heap→Prop):Prop :=
 doW (nRes H §H 5 (qBox ¢ §H 5 25 ~x0)) fun v1 H1 =>
 doW (nRes H1 §H1 7 (qBox ¢ §H1 7 31 ~x2)) fun v2 H2 =>
 doW (nRes H2 §H2 9 (qBox ¢ §H2 9 38 ~x4)) fun v3 H3 =>
 doW (©true H3 26 53 []) fun v4 H4 =>
 doQ (ai ¢ ¥H4 25 ~v1) fun v5 =>
 doW (©true H4 29 13 [v5,x1,(.v (.int .i64 25))]) fun v6 H5 =>
 gQ v6 false (aa ¢ 38 ~v3 6) fun v7 =>
 gQ v6 false (ai ¢ ¥H5 36 ~v7) fun v8 =>
 gQ v6 false (aA ¢ false ¥H5 §H5 33 .len #[36] [v8]) fun v9 =>
 gQ v6 false (qBin ¢ .gtr 3 °33 ¤300 ~v9 £300) fun v10 =>
 doQ (aM ~v6 ¡ ~v10) fun v11 =>
 gQ v11 false (qVal ~v4) fun v12 =>
 gQ v11 false (qUn ¢ .not ~v12) fun v13 =>
 doQ (aM ~v11 ¡ ~v13) fun v14 =>
 br ~v14 (
 Q v4 H5) (
 doQ (ai ¢ ¥H5 25 ~v1) fun v15 =>
 doQ (ai ¢ ¥H5 31 ~v2) fun v16 =>
 doW (©true H5 46 49 [v15,x1,v16,x3]) fun v17 H6 =>
 doQ (aq ~v17 0) fun v18 =>
 doQ (aq ~v17 1) fun v19 =>
 doW (nRes H6 §H6 12 (bq ¢ §H6 12 107)) fun v20 H7 =>
 doW (aC ¢ H7 107 ~v20 ~v18) fun v21 H8 =>
 doQ (qBin ¢ .eql 42 °49 ¤0 ~v19 £0) fun v22 =>
 gQ v22 true (aa ¢ 107 ~v20 1) fun v23 =>
 gQ v22 true (ai ¢ ¥H8 4 ~v23) fun v24 =>
 doQ (aM ~v22 ~v24 ¿) fun v25 =>
 br ~v25 (
 doQ (ai ¢ ¥H8 25 ~v1) fun v26 =>
 doQ (aa ¢ 107 ~v20 2) fun v27 =>
 doQ (ai ¢ ¥H8 62 ~v27) fun v28 =>
 doW (©true H8 60 23 [v26,x1,v28]) fun v29 H9 =>
 doQ (aq ~v29 0) fun v30 =>
 doQ (aq ~v29 1) fun v31 =>
 doQ (ai ¢ ¥H9 25 ~v1) fun v32 =>
 doW (cO ¢ false H9 §H9 66 (some 26) (some 26) (.v (.slice none 0 0)) x1) fun v33 H10 =>
 doQ (aa ¢ 107 ~v20 2) fun v34 =>
 doQ (ai ¢ ¥H10 62 ~v34) fun v35 =>
 doW (gm ¢ true false H10 §H10 69 26 1 (some [(0,v35)])) fun v36 H11 =>
 doW (cO ¢ true H11 §H11 70 (some 26) (some 26) v33 v36) fun v37 H12 =>
 doQ (ai ¢ ¥H12 31 ~v2) fun v38 =>
 doW (©false H12 73 49 [v32,v37,v38,x3]) fun v39 H13 =>
 doQ (aq ~v39 0) fun v40 =>
 doQ (aq ~v39 1) fun v41 =>
 doW (nRes H13 §H13 16 (bq ¢ §H13 16 107)) fun v42 H14 =>
 doW (aC ¢ H14 107 ~v42 ~v40) fun v43 H15 =>
  jn [(v1,v33),(v33,v2)] [v42] [] H15 ∧
 (doQ (qBin ¢ .neq 42 °76 ¤0 ~v31 £0) fun v44 =>
 gQ v44 false (qVal ~v30) fun v45 =>
 gQ v44 false (qUn ¢ .not ~v45) fun v46 =>
 doQ (aM ~v44 ¡ ~v46) fun v47 =>
 gQ v47 false (qVal ~v41) fun v48 =>
 gQ v47 false (qBin ¢ .neq 42 °83 ¤0 ~v48 £0) fun v49 =>
 doQ (aM ~v47 ¡ ~v49) fun v50 =>
 gQ v50 false (aa ¢ 107 ~v42 1) fun v51 =>
 gQ v50 false (ai ¢ ¥H15 4 ~v51) fun v52 =>
 doQ (aM ~v50 ¡ ~v52) fun v53 =>
 gQ v53 false (aa ¢ 107 ~v42 0) fun v54 =>
 gQ v53 false (ai ¢ ¥H15 42 ~v54) fun v55 =>
 gQ v53 false (aa ¢ 107 ~v20 0) fun v56 =>
 gQ v53 false (ai ¢ ¥H15 42 ~v56) fun v57 =>
 gQ v53 false (qBin ¢ .neq 42 °92 °94 ~v55 ~v57) fun v58 =>
 doQ (aM ~v53 ¡ ~v58) fun v59 =>
 br ~v59 (
 Q (.v (.bool false)) H15) (
 doQ (ai ¢ ¥H15 25 ~v1) fun v60 =>
 doQ (ai ¢ ¥H15 31 ~v2) fun v61 =>
 doQ (ai ¢ ¥H15 38 ~v3) fun v62 =>
 doW (©true H15 102 52 [v60,x1,v61,v62]) fun v63 H16 =>
 doQ (aq ~v63 0) fun v64 =>
 doQ (aq ~v63 1) fun v65 =>
 doW (nRes H16 §H16 18 (bq ¢ §H16 18 107)) fun v66 H17 =>
 doW (aC ¢ H17 107 ~v66 ~v64) fun v67 H18 =>
 doQ (qBin ¢ .neq 42 °105 ¤0 ~v65 £0) fun v68 =>
 br ~v68 (
 gQ v4 true (aa ¢ 107 ~v66 1) fun v69 =>
 gQ v4 true (ai ¢ ¥H18 4 ~v69) fun v70 =>
 gQ v4 true (qUn ¢ .not ~v70) fun v71 =>
 doQ (aM ~v4 ~v71 ¿) fun v72 =>
 Q v72 H18) (
 doQ (aa ¢ 107 ~v66 1) fun v69 =>
 doQ (ai ¢ ¥H18 4 ~v69) fun v70 =>
 doQ (qUn ¢ .not ~v70) fun v71 =>
 br ~v71 (
 doQ (ai ¢ ¥H18 25 ~v1) fun v72 =>
 doQ (ai ¢ ¥H18 31 ~v2) fun v73 =>
 doQ (ai ¢ ¥H18 38 ~v3) fun v74 =>
 doW (©true H18 121 52 [v72,x1,v73,v74]) fun v75 H19 =>
 doQ (aq ~v75 0) fun v76 =>
 doQ (aq ~v75 1) fun v77 =>
 doW (nRes H19 §H19 20 (bq ¢ §H19 20 107)) fun v78 H20 =>
 doW (aC ¢ H20 107 ~v78 ~v76) fun v79 H21 =>
 gQ v4 true (qVal ~v77) fun v80 =>
 gQ v4 true (qBin ¢ .eql 42 °126 ¤0 ~v80 £0) fun v81 =>
 doQ (aM ~v4 ~v81 ¿) fun v82 =>
 gQ v82 true (ai ¢ ¥H21 107 ~v78) fun v83 =>
 gQ v82 true (ai ¢ ¥H21 107 ~v66) fun v84 =>
 gW v82 true H21 (©true H21 132 61 [v83,v84]) fun v85 H22 =>
 doQ (aM ~v82 ~v85 ¿) fun v86 =>
 Q v86 H22) (
 doQ (ai ¢ ¥H18 25 ~v1) fun v72 =>
 doQ (aa ¢ 107 ~v66 2) fun v73 =>
 doQ (ai ¢ ¥H18 62 ~v73) fun v74 =>
 doW (©true H18 139 23 [v72,x1,v74]) fun v75 H19 =>
 doQ (aq ~v75 0) fun v76 =>
 doQ (aq ~v75 1) fun v77 =>
 doQ (ai ¢ ¥H19 25 ~v1) fun v78 =>
 doW (cO ¢ false H19 §H19 145 (some 26) (some 26) (.v (.slice none 0 0)) x1) fun v79 H20 =>
 doQ (aa ¢ 107 ~v66 2) fun v80 =>
 doQ (ai ¢ ¥H20 62 ~v80) fun v81 =>
 doW (gm ¢ true false H20 §H20 148 26 1 (some [(0,v81)])) fun v82 H21 =>
 doW (cO ¢ true H21 §H21 149 (some 26) (some 26) v79 v82) fun v83 H22 =>
 doQ (ai ¢ ¥H22 31 ~v2) fun v84 =>
 doQ (ai ¢ ¥H22 38 ~v3) fun v85 =>
 doW (©false H22 152 52 [v78,v83,v84,v85]) fun v86 H23 =>
 doQ (aq ~v86 0) fun v87 =>
 doQ (aq ~v86 1) fun v88 =>
 doW (nRes H23 §H23 24 (bq ¢ §H23 24 107)) fun v89 H24 =>
 doW (aC ¢ H24 107 ~v89 ~v87) fun v90 H25 =>
  jn [(v1,v79),(v79,v2),(v79,v3)] [v89] [] H25 ∧
 (gQ v4 true (qVal ~v77) fun v91 =>
 gQ v4 true (qBin ¢ .eql 42 °157 ¤0 ~v91 £0) fun v92 =>
 doQ (aM ~v4 ~v92 ¿) fun v93 =>
 gQ v93 true (qVal ~v76) fun v94 =>
 doQ (aM ~v93 ~v94 ¿) fun v95 =>
 gQ v95 true (qVal ~v88) fun v96 =>
 gQ v95 true (qBin ¢ .eql 42 °164 ¤0 ~v96 £0) fun v97 =>
 doQ (aM ~v95 ~v97 ¿) fun v98 =>
 gQ v98 true (aa ¢ 107 ~v89 1) fun v99 =>
 gQ v98 true (ai ¢ ¥H25 4 ~v99) fun v100 =>
 gQ v98 true (qUn ¢ .not ~v100) fun v101 =>
 doQ (aM ~v98 ~v101 ¿) fun v102 =>
 gQ v102 true (aa ¢ 107 ~v89 0) fun v103 =>
 gQ v102 true (ai ¢ ¥H25 42 ~v103) fun v104 =>
 gQ v102 true (aa ¢ 107 ~v66 0) fun v105 =>
 gQ v102 true (ai ¢ ¥H25 42 ~v105) fun v106 =>
 gQ v102 true (qBin ¢ .eql 42 °174 °176 ~v104 ~v106) fun v107 =>
 doQ (aM ~v102 ~v107 ¿) fun v108 =>
 gQ v108 true (aa ¢ 107 ~v66 2) fun v109 =>
 gQ v108 true (aa ¢ 62 ~v109 3) fun v110 =>
 gQ v108 true (ai ¢ ¥H25 42 ~v110) fun v111 =>
 gQ v108 true (aa ¢ 107 ~v66 0) fun v112 =>
 gQ v108 true (ai ¢ ¥H25 42 ~v112) fun v113 =>
 gQ v108 true (qBin ¢ .eql 42 °182 °184 ~v111 ~v113) fun v114 =>
 doQ (aM ~v108 ~v114 ¿) fun v115 =>
 Q v115 H25)))))) (
 doQ (ai ¢ ¥H8 25 ~v1) fun v26 =>
 doQ (ai ¢ ¥H8 31 ~v2) fun v27 =>
 doQ (ai ¢ ¥H8 38 ~v3) fun v28 =>
 doW (©true H8 102 52 [v26,x1,v27,v28]) fun v29 H9 =>
 doQ (aq ~v29 0) fun v30 =>
 doQ (aq ~v29 1) fun v31 =>
 doW (nRes H9 §H9 18 (bq ¢ §H9 18 107)) fun v32 H10 =>
 doW (aC ¢ H10 107 ~v32 ~v30) fun v33 H11 =>
 doQ (qBin ¢ .neq 42 °105 ¤0 ~v31 £0) fun v34 =>
 br ~v34 (
 gQ v4 true (aa ¢ 107 ~v32 1) fun v35 =>
 gQ v4 true (ai ¢ ¥H11 4 ~v35) fun v36 =>
 gQ v4 true (qUn ¢ .not ~v36) fun v37 =>
 doQ (aM ~v4 ~v37 ¿) fun v38 =>
 Q v38 H11) (
 doQ (aa ¢ 107 ~v32 1) fun v35 =>
 doQ (ai ¢ ¥H11 4 ~v35) fun v36 =>
 doQ (qUn ¢ .not ~v36) fun v37 =>
 br ~v37 (
 doQ (ai ¢ ¥H11 25 ~v1) fun v38 =>
 doQ (ai ¢ ¥H11 31 ~v2) fun v39 =>
 doQ (ai ¢ ¥H11 38 ~v3) fun v40 =>
 doW (©true H11 121 52 [v38,x1,v39,v40]) fun v41 H12 =>
 doQ (aq ~v41 0) fun v42 =>
 doQ (aq ~v41 1) fun v43 =>
 doW (nRes H12 §H12 20 (bq ¢ §H12 20 107)) fun v44 H13 =>
 doW (aC ¢ H13 107 ~v44 ~v42) fun v45 H14 =>
 gQ v4 true (qVal ~v43) fun v46 =>
 gQ v4 true (qBin ¢ .eql 42 °126 ¤0 ~v46 £0) fun v47 =>
 doQ (aM ~v4 ~v47 ¿) fun v48 =>
 gQ v48 true (ai ¢ ¥H14 107 ~v44) fun v49 =>
 gQ v48 true (ai ¢ ¥H14 107 ~v32) fun v50 =>
 gW v48 true H14 (©true H14 132 61 [v49,v50]) fun v51 H15 =>
 doQ (aM ~v48 ~v51 ¿) fun v52 =>
 Q v52 H15) (
 doQ (ai ¢ ¥H11 25 ~v1) fun v38 =>
 doQ (aa ¢ 107 ~v32 2) fun v39 =>
 doQ (ai ¢ ¥H11 62 ~v39) fun v40 =>
 doW (©true H11 139 23 [v38,x1,v40]) fun v41 H12 =>
 doQ (aq ~v41 0) fun v42 =>
 doQ (aq ~v41 1) fun v43 =>
 doQ (ai ¢ ¥H12 25 ~v1) fun v44 =>
 doW (cO ¢ false H12 §H12 145 (some 26) (some 26) (.v (.slice none 0 0)) x1) fun v45 H13 =>
 doQ (aa ¢ 107 ~v32 2) fun v46 =>
 doQ (ai ¢ ¥H13 62 ~v46) fun v47 =>
 doW (gm ¢ true false H13 §H13 148 26 1 (some [(0,v47)])) fun v48 H14 =>
 doW (cO ¢ true H14 §H14 149 (some 26) (some 26) v45 v48) fun v49 H15 =>
 doQ (ai ¢ ¥H15 31 ~v2) fun v50 =>
 doQ (ai ¢ ¥H15 38 ~v3) fun v51 =>
 doW (©false H15 152 52 [v44,v49,v50,v51]) fun v52 H16 =>
 doQ (aq ~v52 0) fun v53 =>
 doQ (aq ~v52 1) fun v54 =>
 doW (nRes H16 §H16 24 (bq ¢ §H16 24 107)) fun v55 H17 =>
 doW (
  aC ¢ H17 107 ~v55 ~v53) fun v56 H18 =>
  jn [(v1,v45),(v45,v2),(v45,v3)] [v55] [] H18 ∧
 (gQ v4 true (qVal ~v43) fun v57 =>
 gQ v4 true (qBin ¢ .eql 42 °157 ¤0 ~v57 £0) fun v58 =>
 doQ (aM ~v4 ~v58 ¿) fun v59 =>
 gQ v59 true (qVal ~v42) fun v60 =>
 doQ (aM ~v59 ~v60 ¿) fun v61 =>
 gQ v61 true (qVal ~v54) fun v62 =>
 gQ v61 true (qBin ¢ .eql 42 °164 ¤0 ~v62 £0) fun v63 =>
 doQ (aM ~v61 ~v63 ¿) fun v64 =>
 gQ v64 true (aa ¢ 107 ~v55 1) fun v65 =>
 gQ v64 true (ai ¢ ¥H18 4 ~v65) fun v66 =>
 gQ v64 true (qUn ¢ .not ~v66) fun v67 =>
 doQ (aM ~v64 ~v67 ¿) fun v68 =>
 gQ v68 true (aa ¢ 107 ~v55 0) fun v69 =>
 gQ v68 true (ai ¢ ¥H18 42 ~v69) fun v70 =>
 gQ v68 true (aa ¢ 107 ~v32 0) fun v71 =>
 gQ v68 true (ai ¢ ¥H18 42 ~v71) fun v72 =>
 gQ v68 true (qBin ¢ .eql 42 °174 °176 ~v70 ~v72) fun v73 =>
 doQ (aM ~v68 ~v73 ¿) fun v74 =>
 gQ v74 true (aa ¢ 107 ~v32 2) fun v75 =>
 gQ v74 true (aa ¢ 62 ~v75 3) fun v76 =>
 gQ v74 true (ai ¢ ¥H18 42 ~v76) fun v77 =>
 gQ v74 true (aa ¢ 107 ~v32 0) fun v78 =>
 gQ v74 true (ai ¢ ¥H18 42 ~v78) fun v79 =>
 gQ v74 true (qBin ¢ .eql 42 °182 °184 ~v77 ~v79) fun v80 =>
 doQ (aM ~v74 ~v80 ¿) fun v81 =>
 Q v81 H18)))))
theorem mS(x0 x1 x2 x3 x4:AV)(H:Heap)(Q:AV→Heap→Prop)(h : ∀g,aj g x0 x1 x2 x3 x4 H Q):GoL env Tryz.f11 0 [.code iD] [(0,x0),(1,x1),(2,x2),(3,x3),(4,x4)] H Q:=⟨fun g=>aJ (live:=mU) (cut:=mW) (n:=500) (Eq.mp (by kernel_rfl) (h g))⟩
end Go.Proofs.YtmkmimgokagimaaGreat
