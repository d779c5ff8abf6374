/-
  What is to be shown of each function, computed from its code. No statement of a seat is proved here.
-/
import Derived.Test.YtmkmimgokagimaaGreatLeTy
set_option linter.unusedVariables false
set_option maxRecDepth 1000000
namespace Go.Proofs.YtmkmimgokagimaaGreat
open Go.Ab
noncomputable def gT:Code:=(Tryz.f12.body).getD .skip
noncomputable def dw:List Item:=(cE 19 400 [.code gT]).getD []
def kR:Nat→Option (List Nat):=fun i=>cond (Nat.beq i 19) (some [30,10,28,29,20,21,13,8,1,6]) (none)
def kS:Nat→Bool:=fun i=>false
def cg(g:Nat→AV)(x0 x1 x2 x3 x4 x5:AV)(H:ad)(Q:AV→ad→Prop):Prop :=
 aL (zac H 6 25 x0) fun v1 H1 =>
 aL (zac H1 8 31 x2) fun v2 H2 =>
 aL (zac H2 10 38 x4) fun v3 H3 =>
 aL (zaa true H3 33 53 []) fun v4 H4 =>
 ak (zab H4 25 v1) fun v5 =>
 aL (zaa true H4 36 13 [v5,x1,(.v (.int .i64 25))]) fun v6 H5 =>
 gQ v6 false (zad 38 v3 6) fun v7 =>
 gQ v6 false (zab H5 36 v7) fun v8 =>
 gQ v6 false (zai H5 40 36 v8) fun v9 =>
 gQ v6 false (zar 3 40 300 v9) fun v10 =>
 ak (zam v6 v10) fun v11 =>
 gQ v11 false (zbj x5) fun v12 =>
 gQ v11 false (zai H5 45 36 v12) fun v13 =>
 gQ v11 false (zad 38 v3 6) fun v14 =>
 gQ v11 false (zab H5 36 v14) fun v15 =>
 gQ v11 false (zai H5 48 36 v15) fun v16 =>
 gQ v11 false (zap 3 45 48 v13 v16) fun v17 =>
 ak (zam v11 v17) fun v18 =>
 gQ v18 false (zbj v4) fun v19 =>
 gQ v18 false (zbb v19) fun v20 =>
 ak (zam v18 v20) fun v21 =>
 br (some v21) (
 Q v4 H5) (
 ak (zab H5 25 v1) fun v22 =>
 ak (zad 31 v2 0) fun v23 =>
 ak (zab H5 29 v23) fun v24 =>
 aL (zaa true H5 61 19 [v22,x1,v24]) fun v25 H6 =>
 ak (zaw v25 0) fun v26 =>
 ak (zaw v25 1) fun v27 =>
 ak (zae 42 64 0 v27) fun v28 =>
 br (some v28) (
 Q v4 H6) (
 ak (zab H6 25 v1) fun v29 =>
 ak (zab H6 31 v2) fun v30 =>
 aL (zaa true H6 72 49 [v29,x1,v30,x3]) fun v31 H7 =>
 ak (zaw v31 0) fun v32 =>
 ak (zaw v31 1) fun v33 =>
 aL (zah H7 16 107) fun v34 H8 =>
 aL (zal H8 107 v34 v32) fun v35 H9 =>
 ak (zab H9 25 v1) fun v36 =>
 ak (zab H9 31 v2) fun v37 =>
 aL (zaa true H9 80 49 [v36,v26,v37,x3]) fun v38 H10 =>
 ak (zaw v38 0) fun v39 =>
 ak (zaw v38 1) fun v40 =>
 aL (zah H10 18 107) fun v41 H11 =>
 aL (zal H11 107 v41 v39) fun v42 H12 =>
 ak (zab H12 25 v1) fun v43 =>
 ak (zab H12 31 v2) fun v44 =>
 ak (zab H12 38 v3) fun v45 =>
 aL (zaa true H12 88 52 [v43,x1,v44,v45]) fun v46 H13 =>
 ak (zaw v46 0) fun v47 =>
 ak (zaw v46 1) fun v48 =>
 aL (zah H13 20 107) fun v49 H14 =>
 aL (zal H14 107 v49 v47) fun v50 H15 =>
 ak (zab H15 25 v1) fun v51 =>
 ak (zab H15 31 v2) fun v52 =>
 ak (zab H15 38 v3) fun v53 =>
 aL (zaa true H15 96 52 [v51,v26,v52,v53]) fun v54 H16 =>
 ak (zaw v54 0) fun v55 =>
 ak (zaw v54 1) fun v56 =>
 aL (zah H16 22 107) fun v57 H17 =>
 aL (zal H17 107 v57 v55) fun v58 H18 =>
 ak (zab H18 25 v1) fun v59 =>
 ak (zab H18 31 v2) fun v60 =>
 aL (zaa true H18 103 59 [v59,x1,v60]) fun v61 H19 =>
 ak (zaw v61 0) fun v62 =>
 ak (zaw v61 1) fun v63 =>
 ak (zab H19 25 v1) fun v64 =>
 ak (zab H19 31 v2) fun v65 =>
 aL (zaa true H19 110 59 [v64,v26,v65]) fun v66 H20 =>
 ak (zaw v66 0) fun v67 =>
 ak (zaw v66 1) fun v68 =>
 ak (zab H20 107 v34) fun v69 =>
 ak (zab H20 107 v41) fun v70 =>
 aL (zaa true H20 115 61 [v69,v70]) fun v71 H21 =>
 ak (zbb v71) fun v72 =>
 gQ v72 false (zbj v33) fun v73 =>
 gQ v72 false (zbj v40) fun v74 =>
 gQ v72 false (zav 42 118 119 v73 v74) fun v75 =>
 ak (zam v72 v75) fun v76 =>
 gQ v76 false (zab H21 107 v49) fun v77 =>
 gQ v76 false (zab H21 107 v57) fun v78 =>
 gW v76 false H21 (zaa true H21 125 61 [v77,v78]) fun v79 H22 =>
 gQ v76 false (zbb v79) fun v80 =>
 ak (zam v76 v80) fun v81 =>
 gQ v81 false (zbj v48) fun v82 =>
 gQ v81 false (zbj v56) fun v83 =>
 gQ v81 false (zav 42 129 130 v82 v83) fun v84 =>
 ak (zam v81 v84) fun v85 =>
 gQ v85 false (zbj v62) fun v86 =>
 gQ v85 false (zbj v67) fun v87 =>
 gQ v85 false (zav 4 134 135 v86 v87) fun v88 =>
 ak (zam v85 v88) fun v89 =>
 gQ v89 false (zbj v63) fun v90 =>
 gQ v89 false (zbj v68) fun v91 =>
 gQ v89 false (zav 42 139 140 v90 v91) fun v92 =>
 ak (zam v89 v92) fun v93 =>
 br (some v93) (
 Q (.v (.bool false)) H22) (
 ak (zab H22 38 v3) fun v94 =>
 aL (zah H22 28 38) fun v95 H23 =>
 aL (zal H23 38 v95 v94) fun v96 H24 =>
 ak (zad 38 v3 6) fun v97 =>
 ak (zab H24 36 v97) fun v98 =>
 ak (zai H24 147 36 v98) fun v99 =>
 ak (zbh H24 36 x5 v99) fun v100 =>
 aL (de env.P true H24 (Ref.mk 0 149 (ad.gen H24 0 149) 0) (some 36) (some 36) (.v (.slice none 0 0)) v100) fun v101 H25 =>
 ak (zad 38 v95 6) fun v102 =>
 aL (
  aQ env.P H25 36 (some v102) (some v101)) fun v103 H26 =>
  b7 env Tryz.f12 0 dw [(30,(.v (.int .i64 0))),(10,v3),(28,v95),(29,(.v (.bool true))),(20,v49),(21,v48),(13,v4),(8,v2),(1,x1),(6,v1)] H26 Q)))
theorem qw(x0 x1 x2 x3 x4 x5:AV)(H:ad)(Q:AV→ad→Prop)(h : ∀g,cg g x0 x1 x2 x3 x4 x5 H Q):b7 env Tryz.f12 0 [.code gT] [(0,x0),(1,x1),(2,x2),(3,x3),(4,x4),(5,x5)] H Q:=⟨fun g=>bc (live:=kR) (cut:=kS) (n:=500) (Eq.mp (by kernel_rfl) (h g))⟩
def aK(g:Nat→AV)(x30 x10 x28 x29 x20 x21 x13 x8 x1 x6:AV)(H:ad)(Q:AV→ad→Prop):Prop :=
 ak (zad 38 x28 6) fun v1 =>
 ak (zab H 36 v1) fun v2 =>
 ak (zai H 154 36 v2) fun v3 =>
 ak (zap 3 151 154 x30 v3) fun v4 =>
 br (some v4) (
 gQ x29 true (zad 38 x28 6) fun v5 =>
 gQ x29 true (zab H 36 v5) fun v6 =>
 gQ x29 true (zbj x30) fun v7 =>
 gQ x29 true (zau H 36 v6 v7) fun v8 =>
 gQ x29 true (zab H 21 v8) fun v9 =>
 gQ x29 true (zck 21 164 v9) fun v10 =>
 gQ x29 true (zad 38 x10 6) fun v11 =>
 gQ x29 true (zab H 36 v11) fun v12 =>
 gQ x29 true (zbj x30) fun v13 =>
 gQ x29 true (zau H 36 v12 v13) fun v14 =>
 gQ x29 true (zab H 21 v14) fun v15 =>
 gQ x29 true (zck 21 170 v15) fun v16 =>
 gQ x29 true (zan 4 165 171 v10 v16) fun v17 =>
 ak (zag x29 v17) fun v18 =>
 ak (zaf 3 156 1 x30) fun v19 =>
  b7 env Tryz.f12 0 dw [(30,v19),(10,x10),(28,x28),(29,v18),(20,x20),(21,x21),(13,x13),(8,x8),(1,x1),(6,x6)] H Q) (
 ak (zab H 25 x6) fun v5 =>
 ak (zab H 31 x8) fun v6 =>
 ak (zab H 38 x28) fun v7 =>
 aL (zaa true H 179 52 [v5,x1,v6,v7]) fun v8 H1 =>
 ak (zaw v8 0) fun v9 =>
 ak (zaw v8 1) fun v10 =>
 aL (zah H1 31 107) fun v11 H2 =>
 aL (zal H2 107 v11 v9) fun v12 H3 =>
 gQ x13 true (zbj x29) fun v13 =>
 gQ x13 true (zbb v13) fun v14 =>
 gQ x13 true (zbj v14) fun v15 =>
 gQ v15 false (zbj v10) fun v16 =>
 gQ v15 false (zbj x21) fun v17 =>
 gQ v15 false (zav 42 187 188 v16 v17) fun v18 =>
 gQ x13 true (zam v15 v18) fun v19 =>
 gQ x13 true (zbj v19) fun v20 =>
 gQ v20 false (zad 107 v11 0) fun v21 =>
 gQ v20 false (zab H3 42 v21) fun v22 =>
 gQ v20 false (zad 107 x20 0) fun v23 =>
 gQ v20 false (zab H3 42 v23) fun v24 =>
 gQ v20 false (zan 42 193 195 v22 v24) fun v25 =>
 gQ v20 false (zbj v25) fun v26 =>
 gQ v26 true (zad 107 v11 1) fun v27 =>
 gQ v26 true (zab H3 4 v27) fun v28 =>
 gQ v26 true (zad 107 x20 1) fun v29 =>
 gQ v26 true (zab H3 4 v29) fun v30 =>
 gQ v26 true (zan 4 199 201 v28 v30) fun v31 =>
 gQ v20 false (zag v26 v31) fun v32 =>
 gQ x13 true (zam v20 v32) fun v33 =>
 ak (zag x13 v33) fun v34 =>
 Q v34 H3)
theorem ew(x30 x10 x28 x29 x20 x21 x13 x8 x1 x6:AV)(H:ad)(Q:AV→ad→Prop)(h : ∀g,aK g x30 x10 x28 x29 x20 x21 x13 x8 x1 x6 H Q):b7 env Tryz.f12 0 dw [(30,x30),(10,x10),(28,x28),(29,x29),(20,x20),(21,x21),(13,x13),(8,x8),(1,x1),(6,x6)] H Q:=dG fun g=>bc (live:=kR) (cut:=kS) (n:=500) (Eq.mp (by kernel_rfl) (h g))
end Go.Proofs.YtmkmimgokagimaaGreat
