/-
  What is to be shown of each function, computed from its code. No statement of a seat is proved here.
-/
import Derived.Test.YtmjkpdknicjjgaaLgTy
set_option linter.unusedVariables false
set_option maxRecDepth 1000000
namespace Go.Proofs.Ytmjkpdknicjjgaa
open Go.Ab
noncomputable def fe:Code:=(Try.f4.body).getD .skip
def lY:Nat→Option (List Nat):=fun i=>none
def me:Nat→Bool:=fun i=>false
def aP (g:Nat→AV) (x0 x1 x2 x3 x4:AV) (H:Heap) (Q:AV→Heap→Prop):Prop :=
 doW (nRes H (⟨0,8,Heap.gen H 0 8,0⟩:Ref) (qBox env.P (⟨0,8,Heap.gen H 0 8,0⟩:Ref) 48 (some x3))) fun v1 H1 =>
 doW (ak env true (limf env) (limt env 0) H1 (⟨0,26,Heap.gen H1 0 26,0⟩:Ref) (some (.fn (.func 16) [] [])) []) fun v2 H2 =>
 doW (ak env true (limf env) (limt env 0) H2 (⟨0,28,Heap.gen H2 0 28,0⟩:Ref) (some (.fn (.func 18) [] [])) [x0,(.v (.int .i64 12))]) fun v3 H3 =>
 gQ v3 false (ab env.P 48 (some v1) 2) fun v4 =>
 gQ v3 false (ab env.P 42 (some v4) 6) fun v5 =>
 gQ v3 false (an env.P (Heap.get H3) 40 (some v5)) fun v6 =>
 gQ v3 false (ax env.P false (Heap.get H3) (⟨0,33,Heap.gen H3 0 33,0⟩:Ref) .len #[40] [v6]) fun v7 =>
 gQ v3 false (qBin env.P .gtr 3 (.tmp 33) (.const (.int .i64 200)) (some v7) (some (.v (.int .i64 200)))) fun v8 =>
 doQ (bg (some v3) (some (.v (.bool true))) (some v8)) fun v9 =>
 gQ v9 false (qVal (some x2)) fun v10 =>
 gQ v9 false (qBin env.P .lss 3 (.tmp 37) (.const (.int .i64 0)) (some v10) (some (.v (.int .i64 0)))) fun v11 =>
 doQ (bg (some v9) (some (.v (.bool true))) (some v11)) fun v12 =>
 gQ v12 false (qVal (some x2)) fun v13 =>
 gQ v12 false (qBin env.P .gtr 3 (.tmp 41) (.const (.int .i64 2)) (some v13) (some (.v (.int .i64 2)))) fun v14 =>
 doQ (bg (some v12) (some (.v (.bool true))) (some v14)) fun v15 =>
 gQ v15 false (qVal (some v2)) fun v16 =>
 gQ v15 false (qUn env.P .not (some v16)) fun v17 =>
 doQ (bg (some v15) (some (.v (.bool true))) (some v17)) fun v18 =>
 br (some v18) (
 Q v2 H3) (
 doW (ak env true (limf env) (limt env 0) H3 (⟨0,50,Heap.gen H3 0 50,0⟩:Ref) (some (.fn (.func 10) [] [])) []) fun v19 H4 =>
 doW (ak env true (limf env) (limt env 0) H4 (⟨0,51,Heap.gen H4 0 51,0⟩:Ref) (some (.fn (.func 9) [] [])) [v19,(.v (.int .i64 (-1)))]) fun v20 H5 =>
 doQ (au (some v20) 0) fun v21 =>
 doQ (au (some v20) 1) fun v22 =>
 doW (nRes H5 (⟨0,12,Heap.gen H5 0 12,0⟩:Ref) (cB env.P (⟨0,12,Heap.gen H5 0 12,0⟩:Ref) 24)) fun v23 H6 =>
 doW (ay env.P H6 24 (some v23) (some v21)) fun v24 H7 =>
 doQ (an env.P (Heap.get H7) 24 (some v23)) fun v25 =>
 doW (ak env true (limf env) (limt env 0) H7 (⟨0,57,Heap.gen H7 0 57,0⟩:Ref) (some (.fn (.func 11) [] [])) [v25,(.v (.int .i64 0)),(.v (.int .i64 1)),x0]) fun v26 H8 =>
 doQ (au (some v26) 0) fun v27 =>
 doQ (au (some v26) 1) fun v28 =>
 doQ (au (some v26) 2) fun v29 =>
 doW (nRes H8 (⟨0,14,Heap.gen H8 0 14,0⟩:Ref) (cB env.P (⟨0,14,Heap.gen H8 0 14,0⟩:Ref) 24)) fun v30 H9 =>
 doW (ay env.P H9 24 (some v30) (some v27)) fun v31 H10 =>
 doQ (an env.P (Heap.get H10) 24 (some v30)) fun v32 =>
 doQ (an env.P (Heap.get H10) 48 (some v1)) fun v33 =>
 doW (ak env true (limf env) (limt env 0) H10 (⟨0,66,Heap.gen H10 0 66,0⟩:Ref) (some (.fn (.func 14) [] [])) [v32,x1,x4,(.v (.int .i64 1)),v33]) fun v34 H11 =>
 doQ (au (some v34) 0) fun v35 =>
 doQ (au (some v34) 1) fun v36 =>
 doQ (au (some v34) 2) fun v37 =>
 doW (nRes H11 (⟨0,17,Heap.gen H11 0 17,0⟩:Ref) (cB env.P (⟨0,17,Heap.gen H11 0 17,0⟩:Ref) 24)) fun v38 H12 =>
 doW (ay env.P H12 24 (some v38) (some v35)) fun v39 H13 =>
 doQ (qBin env.P .neq 25 (.tmp 70) (.const (.int .i64 0)) (some v22) (some (.v (.int .i64 0)))) fun v40 =>
 gQ v40 false (qVal (some v29)) fun v41 =>
 gQ v40 false (qUn env.P .not (some v41)) fun v42 =>
 doQ (bg (some v40) (some (.v (.bool true))) (some v42)) fun v43 =>
 gQ v43 false (qVal (some v37)) fun v44 =>
 gQ v43 false (qBin env.P .neq 25 (.tmp 77) (.const (.int .i64 0)) (some v44) (some (.v (.int .i64 0)))) fun v45 =>
 doQ (bg (some v43) (some (.v (.bool true))) (some v45)) fun v46 =>
 br (some v46) (
 gQ v2 true (qVal (some v22)) fun v47 =>
 gQ v2 true (qBin env.P .eql 25 (.tmp 82) (.const (.int .i64 0)) (some v47) (some (.v (.int .i64 0)))) fun v48 =>
 doQ (bg (some v2) (some v48) (some (.v (.bool false)))) fun v49 =>
 Q v49 H13) (
 doQ (an env.P (Heap.get H13) 24 (some v30)) fun v47 =>
 doW (ak env true (limf env) (limt env 0) H13 (⟨0,88,Heap.gen H13 0 88,0⟩:Ref) (some (.fn (.func 15) [] [])) [v47,x2,(.v (.int .i64 0)),(.v (.int .i64 1000))]) fun v48 H14 =>
 doQ (au (some v48) 0) fun v49 =>
 doQ (au (some v48) 1) fun v50 =>
 doQ (au (some v48) 2) fun v51 =>
 doQ (an env.P (Heap.get H14) 24 (some v38)) fun v52 =>
 doW (ak env true (limf env) (limt env 0) H14 (⟨0,95,Heap.gen H14 0 95,0⟩:Ref) (some (.fn (.func 15) [] [])) [v52,x2,(.v (.int .i64 0)),(.v (.int .i64 1000))]) fun v53 H15 =>
 doQ (au (some v53) 0) fun v54 =>
 doQ (au (some v53) 1) fun v55 =>
 doQ (au (some v53) 2) fun v56 =>
 doQ (qBin env.P .neq 25 (.tmp 99) (.const (.int .i64 0)) (some v51) (some (.v (.int .i64 0)))) fun v57 =>
 gQ v57 false (qVal (some v56)) fun v58 =>
 gQ v57 false (qBin env.P .neq 25 (.tmp 102) (.const (.int .i64 0)) (some v58) (some (.v (.int .i64 0)))) fun v59 =>
 doQ (bg (some v57) (some (.v (.bool true))) (some v59)) fun v60 =>
 br (some v60) (
 Q (.v (.bool false)) H15) (
 doQ (qBin env.P .neq 3 (.tmp 105) (.tmp 106) (some x2) (some x1)) fun v61 =>
 gQ v61 false (qVal (some x2)) fun v62 =>
 gQ v61 false (qBin env.P .eql 3 (.tmp 109) (.const (.int .i64 0)) (some v62) (some (.v (.int .i64 0)))) fun v63 =>
 gQ v61 false (qVal (some v63)) fun v64 =>
 gQ v64 true (qVal (some x4)) fun v65 =>
 gQ v64 true (qVal (some v28)) fun v66 =>
 gQ v64 true (qBin env.P .geq 3 (.tmp 112) (.tmp 113) (some v65) (some v66)) fun v67 =>
 gQ v61 false (bg (some v64) (some v67) (some (.v (.bool false)))) fun v68 =>
 doQ (bg (some v61) (some (.v (.bool true))) (some v68)) fun v69 =>
 br (some v69) (
 gQ v2 true (qVal (some v49)) fun v70 =>
 gQ v2 true (ax env.P false (Heap.get H15) (⟨0,120,Heap.gen H15 0 120,0⟩:Ref) .len #[50] [v70]) fun v71 =>
 gQ v2 true (qVal (some v54)) fun v72 =>
 gQ v2 true (ax env.P false (Heap.get H15) (⟨0,122,Heap.gen H15 0 122,0⟩:Ref) .len #[50] [v72]) fun v73 =>
 gQ v2 true (qBin env.P .leq 3 (.tmp 120) (.tmp 122) (some v71) (some v73)) fun v74 =>
 doQ (bg (some v2) (some v74) (some (.v (.bool false)))) fun v75 =>
 gQ v75 true (qVal (some v49)) fun v76 =>
 gQ v75 true (qVal (some v54)) fun v77 =>
 gQ v75 true (qVal (some v49)) fun v78 =>
 gQ v75 true (ax env.P false (Heap.get H15) (⟨0,129,Heap.gen H15 0 129,0⟩:Ref) .len #[50] [v78]) fun v79 =>
 gQ v75 true (bM env.P (Heap.get H15) 50 (some v77) (some none) (oi v79) (some none)) fun v80 =>
 gW v75 true H15 (ak env true (limf env) (limt env 0) H15 (⟨0,131,Heap.gen H15 0 131,0⟩:Ref) (some (.fn (.func 19) [] [])) [v76,v80]) fun v81 H16 =>
 doQ (bg (some v75) (some v81) (some (.v (.bool false)))) fun v82 =>
 gQ v82 true (qVal (some v55)) fun v83 =>
 gQ v82 true (qVal (some v50)) fun v84 =>
 gQ v82 true (qBin env.P .geq 3 (.tmp 134) (.tmp 135) (some v83) (some v84)) fun v85 =>
 doQ (bg (some v82) (some v85) (some (.v (.bool false)))) fun v86 =>
 gQ v86 true (qVal (some x2)) fun v87 =>
 gQ v86 true (qVal (some x1)) fun v88 =>
 gQ v86 true (qBin env.P .eql 3 (.tmp 139) (.tmp 140) (some v87) (some v88)) fun v89 =>
 gQ v86 true (qVal (some v89)) fun v90 =>
 gQ v90 false (qVal (some v55)) fun v91 =>
 gQ v90 false (qVal (some v50)) fun v92 =>
 gQ v90 false (qBin env.P .eql 3 (.tmp 143) (.tmp 144) (some v91) (some v92)) fun v93 =>
 gQ v86 true (bg (some v90) (some (.v (.bool true))) (some v93)) fun v94 =>
 doQ (bg (some v86) (some v94) (some (.v (.bool false)))) fun v95 =>
 Q v95 H16) (
 Q v2 H15))))
theorem lN:aP=fun g x0 x1 x2 x3 x4 H Q=>wp env Try.f4 none 0 lY me Q 500 [.code fe] (ofL g [(0,x0),(1,x1),(2,x2),(3,x3),(4,x4)]) H:=by kernel_rfl
theorem lP (x0 x1 x2 x3 x4:AV) (H:Heap) (Q:AV→Heap→Prop) (h : ∀g,aP g x0 x1 x2 x3 x4 H Q):GoL env Try.f4 0 [.code fe] [(0,x0),(1,x1),(2,x2),(3,x3),(4,x4)] H Q:=⟨fun g=>bt (by have h:=h g;rw [lN] at h;exact h)⟩
end Go.Proofs.Ytmjkpdknicjjgaa
