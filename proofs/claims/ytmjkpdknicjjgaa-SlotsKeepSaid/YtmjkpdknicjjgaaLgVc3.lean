/-
  What is to be shown of each function, computed from its code. No statement of a seat is proved here.
-/
import Derived.Test.YtmjkpdknicjjgaaLgTy
set_option linter.unusedVariables false
set_option maxRecDepth 1000000
namespace Go.Proofs.Ytmjkpdknicjjgaa
open Go.Ab
noncomputable def oI:Code:=(Try.f54.body).getD .skip
def Im:Nat→Option (List Nat):=fun i=>none
def Jd:Nat→Bool:=fun i=>false
def mP (g:Nat→AV) (x0:AV) (H:Heap) (Q:AV→Heap→Prop):Prop :=
 doW (nRes H (⟨0,1,Heap.gen H 0 1,0⟩:Ref) (qBox env.P (⟨0,1,Heap.gen H 0 1,0⟩:Ref) 42 (some x0))) fun v1 H1 =>
 doQ (an env.P (Heap.get H1) 42 (some v1)) fun v2 =>
 doW (ak env true (limf env) (limt env 0) H1 (⟨0,16,Heap.gen H1 0 16,0⟩:Ref) (some (.fn (.func 73) [] [])) [v2]) fun v3 H2 =>
 doQ (qBin env.P .neq 25 (.tmp 17) (.const (.int .i64 0)) (some v3) (some (.v (.int .i64 0)))) fun v4 =>
 br (some v4) (
 Q (.tup [(.v (.slice none 0 0)),v3]) H2) (
 doQ (ab env.P 42 (some v1) 1) fun v5 =>
 doQ (an env.P (Heap.get H2) 35 (some v5)) fun v6 =>
 doW (ak env true (limf env) (limt env 0) H2 (⟨0,23,Heap.gen H2 0 23,0⟩:Ref) (some (.fn (.func 53) [] [])) [v6]) fun v7 H3 =>
 doQ (ao (some v7) 0) fun v8 =>
 doQ (ao (some v7) 1) fun v9 =>
 doQ (ab env.P 42 (some v1) 3) fun v10 =>
 doQ (ab env.P 39 (some v10) 0) fun v11 =>
 doQ (an env.P (Heap.get H3) 37 (some v11)) fun v12 =>
 doW (ak env true (limf env) (limt env 0) H3 (⟨0,30,Heap.gen H3 0 30,0⟩:Ref) (some (.fn (.func 74) [] [])) [v12]) fun v13 H4 =>
 doQ (ao (some v13) 0) fun v14 =>
 doQ (ao (some v13) 1) fun v15 =>
 doQ (ab env.P 42 (some v1) 0) fun v16 =>
 doQ (an env.P (Heap.get H4) 5 (some v16)) fun v17 =>
 doW (fX env.P false true H4 (⟨0,35,Heap.gen H4 0 35,0⟩:Ref) 68 1 (some [(0,v17)])) fun v18 H5 =>
 doQ (ab env.P 42 (some v1) 2) fun v19 =>
 doQ (an env.P (Heap.get H5) 3 (some v19)) fun v20 =>
 doQ (qBin env.P .shr 3 (.tmp 38) (.const (.int .u64 16)) (some v20) (some (.v (.int .u64 16)))) fun v21 =>
 doQ (aJ env.P (Heap.get H5) (⟨0,40,Heap.gen H5 0 40,0⟩:Ref) 3 5 (some v21)) fun v22 =>
 doQ (ab env.P 42 (some v1) 2) fun v23 =>
 doQ (an env.P (Heap.get H5) 3 (some v23)) fun v24 =>
 doQ (qBin env.P .shr 3 (.tmp 42) (.const (.int .u64 8)) (some v24) (some (.v (.int .u64 8)))) fun v25 =>
 doQ (aJ env.P (Heap.get H5) (⟨0,44,Heap.gen H5 0 44,0⟩:Ref) 3 5 (some v25)) fun v26 =>
 doQ (ab env.P 42 (some v1) 2) fun v27 =>
 doQ (an env.P (Heap.get H5) 3 (some v27)) fun v28 =>
 doQ (aJ env.P (Heap.get H5) (⟨0,47,Heap.gen H5 0 47,0⟩:Ref) 3 5 (some v28)) fun v29 =>
 doW (fX env.P false true H5 (⟨0,48,Heap.gen H5 0 48,0⟩:Ref) 68 3 (some [(0,v22),(1,v26),(2,v29)])) fun v30 H6 =>
 doQ (ab env.P 42 (some v1) 3) fun v31 =>
 doQ (ab env.P 39 (some v31) 1) fun v32 =>
 doQ (an env.P (Heap.get H6) 3 (some v32)) fun v33 =>
 doQ (aJ env.P (Heap.get H6) (⟨0,53,Heap.gen H6 0 53,0⟩:Ref) 3 5 (some v33)) fun v34 =>
 doW (fX env.P false true H6 (⟨0,54,Heap.gen H6 0 54,0⟩:Ref) 68 1 (some [(0,v34)])) fun v35 H7 =>
 doW (fX env.P false true H7 (⟨0,55,Heap.gen H7 0 55,0⟩:Ref) 79 5 (some [(0,v18),(1,v8),(2,v30),(3,v14),(4,v35)])) fun v36 H8 =>
 doW (ak env true (limf env) (limt env 0) H8 (⟨0,56,Heap.gen H8 0 56,0⟩:Ref) (some (.fn (.func 47) [] [])) [v36]) fun v37 H9 =>
 doQ (ab env.P 42 (some v1) 0) fun v38 =>
 doQ (an env.P (Heap.get H9) 5 (some v38)) fun v39 =>
 doQ (qBin env.P .eql 5 (.tmp 58) (.const (.int .u8 1)) (some v39) (some (a8 1))) fun v40 =>
 br (some v40) (
 doW (nRes H9 (⟨0,61,Heap.gen H9 0 61,0⟩:Ref) (rJ env.P (⟨0,61,Heap.gen H9 0 61,0⟩:Ref) 68 (some (.v (.int .i64 13))) (some (.v (.int .i64 13))))) fun v41 H10 =>
 doQ (ab env.P 42 (some v1) 4) fun v42 =>
 doQ (an env.P (Heap.get H10) 37 (some v42)) fun v43 =>
 doQ (bu env.P 37 (some [])) fun v44 =>
 doQ (qBin env.P .neq 37 (.tmp 63) (.tmp 64) (some v43) (some v44)) fun v45 =>
 br (some v45) (
 doQ (ab env.P 42 (some v1) 4) fun v46 =>
 doQ (an env.P (Heap.get H10) 37 (some v46)) fun v47 =>
 doW (ak env true (limf env) (limt env 0) H10 (⟨0,69,Heap.gen H10 0 69,0⟩:Ref) (some (.fn (.func 74) [] [])) [v47]) fun v48 H11 =>
 doQ (ao (some v48) 0) fun v49 =>
 doQ (ao (some v48) 1) fun v50 =>
 doQ (ab env.P 42 (some v1) 6) fun v51 =>
 doQ (an env.P (Heap.get H11) 40 (some v51)) fun v52 =>
 doW (ak env true (limf env) (limt env 0) H11 (⟨0,75,Heap.gen H11 0 75,0⟩:Ref) (some (.fn (.func 75) [] [])) [v52]) fun v53 H12 =>
 doQ (ao (some v53) 0) fun v54 =>
 doQ (ao (some v53) 1) fun v55 =>
 doW (fX env.P false true H12 (⟨0,81,Heap.gen H12 0 81,0⟩:Ref) 79 3 (some [(0,v37),(1,v49),(2,v54)])) fun v56 H13 =>
 doW (ak env true (limf env) (limt env 0) H13 (⟨0,82,Heap.gen H13 0 82,0⟩:Ref) (some (.fn (.func 47) [] [])) [v56]) fun v57 H14 =>
 Q (.tup [v57,(.v (.int .i64 0))]) H14) (
 doQ (ab env.P 42 (some v1) 6) fun v46 =>
 doQ (an env.P (Heap.get H10) 40 (some v46)) fun v47 =>
 doW (ak env true (limf env) (limt env 0) H10 (⟨0,75,Heap.gen H10 0 75,0⟩:Ref) (some (.fn (.func 75) [] [])) [v47]) fun v48 H11 =>
 doQ (ao (some v48) 0) fun v49 =>
 doQ (ao (some v48) 1) fun v50 =>
 doW (fX env.P false true H11 (⟨0,81,Heap.gen H11 0 81,0⟩:Ref) 79 3 (some [(0,v37),(1,v41),(2,v49)])) fun v51 H12 =>
 doW (ak env true (limf env) (limt env 0) H12 (⟨0,82,Heap.gen H12 0 82,0⟩:Ref) (some (.fn (.func 47) [] [])) [v51]) fun v52 H13 =>
 Q (.tup [v52,(.v (.int .i64 0))]) H13)) (
 doQ (qBin env.P .eql 5 (.tmp 58) (.const (.int .u8 3)) (some v39) (some (a8 3))) fun v41 =>
 br (some v41) (
 doQ (ab env.P 42 (some v1) 5) fun v42 =>
 doQ (an env.P (Heap.get H9) 33 (some v42)) fun v43 =>
 doQ (bu env.P 35 (some [(0,v43)])) fun v44 =>
 doW (ak env true (limf env) (limt env 0) H9 (⟨0,89,Heap.gen H9 0 89,0⟩:Ref) (some (.fn (.func 53) [] [])) [v44]) fun v45 H10 =>
 doQ (ao (some v45) 0) fun v46 =>
 doQ (ao (some v45) 1) fun v47 =>
 doQ (bK env.P (Heap.get H10) 68 (some v46) (some none) (oi (.v (.int .i64 5))) (some none)) fun v48 =>
 doW (bQ env.P true H10 (⟨0,95,Heap.gen H10 0 95,0⟩:Ref) (some 68) (some 68) v37 v48) fun v49 H11 =>
 Q (.tup [v49,(.v (.int .i64 0))]) H11) (
 Q (.tup [v37,(.v (.int .i64 0))]) H9)))
theorem GH:mP=fun g x0 H Q=>wp env Try.f54 none 0 Im Jd Q 500 [.code oI] (ofL g [(0,x0)]) H:=by kernel_rfl
theorem sk (x0:AV) (H:Heap) (Q:AV→Heap→Prop) (h : ∀g,mP g x0 H Q):GoL env Try.f54 0 [.code oI] [(0,x0)] H Q:=⟨fun g=>bg (by have h:=h g;rw [GH] at h;exact h)⟩
noncomputable def wW:Code:=(Try.f82.body).getD .skip
def Io:Nat→Option (List Nat):=fun i=>none
def Je:Nat→Bool:=fun i=>false
def w6 (g:Nat→AV) (x0:AV) (H:Heap) (Q:AV→Heap→Prop):Prop :=
 doW (nRes H (⟨0,2,Heap.gen H 0 2,0⟩:Ref) (bO env.P (⟨0,2,Heap.gen H 0 2,0⟩:Ref) 42)) fun v1 H1 =>
 doQ (bu env.P 166 (some [(0,x0)])) fun v2 =>
 doW (nRes H1 (⟨0,17,Heap.gen H1 0 17,0⟩:Ref) (qBox env.P (⟨0,17,Heap.gen H1 0 17,0⟩:Ref) 166 (some v2))) fun v3 H2 =>
 doQ (uR (.func 95) (some [v3]) (some [])) fun v4 =>
 doQ (uR (.func 96) (some [v3]) (some [])) fun v5 =>
 doW (ak env true (limf env) (limt env 0) H2 (⟨0,23,Heap.gen H2 0 23,0⟩:Ref) (some v4) [(.v (.int .i64 1))]) fun v6 H3 =>
 doQ (au env.P (Heap.get H3) 68 (some v6) (some (.v (.int .i64 0)))) fun v7 =>
 doQ (an env.P (Heap.get H3) 5 (some v7)) fun v8 =>
 doQ (ab env.P 42 (some v1) 0) fun v9 =>
 doW (aw env.P H3 5 (some v9) (some v8)) fun v10 H4 =>
 doW (ak env true (limf env) (limt env 0) H4 (⟨0,29,Heap.gen H4 0 29,0⟩:Ref) (some v4) [(.v (.int .i64 6))]) fun v11 H5 =>
 doW (ak env true (limf env) (limt env 0) H5 (⟨0,30,Heap.gen H5 0 30,0⟩:Ref) (some (.fn (.func 81) [] [])) [v11]) fun v12 H6 =>
 doQ (ao (some v12) 0) fun v13 =>
 doQ (ao (some v12) 1) fun v14 =>
 doW (nRes H6 (⟨0,8,Heap.gen H6 0 8,0⟩:Ref) (bO env.P (⟨0,8,Heap.gen H6 0 8,0⟩:Ref) 35)) fun v15 H7 =>
 doW (aw env.P H7 35 (some v15) (some v13)) fun v16 H8 =>
 doW (ak env true (limf env) (limt env 0) H8 (⟨0,34,Heap.gen H8 0 34,0⟩:Ref) (some v4) [(.v (.int .i64 3))]) fun v17 H9 =>
 doQ (an env.P (Heap.get H9) 35 (some v15)) fun v18 =>
 doQ (au env.P (Heap.get H9) 68 (some v17) (some (.v (.int .i64 0)))) fun v19 =>
 doQ (an env.P (Heap.get H9) 5 (some v19)) fun v20 =>
 doQ (aJ env.P (Heap.get H9) (⟨0,39,Heap.gen H9 0 39,0⟩:Ref) 5 3 (some v20)) fun v21 =>
 doQ (qBin env.P .shl 3 (.tmp 39) (.const (.int .u64 16)) (some v21) (some (.v (.int .u64 16)))) fun v22 =>
 doQ (au env.P (Heap.get H9) 68 (some v17) (some (.v (.int .i64 1)))) fun v23 =>
 doQ (an env.P (Heap.get H9) 5 (some v23)) fun v24 =>
 doQ (aJ env.P (Heap.get H9) (⟨0,44,Heap.gen H9 0 44,0⟩:Ref) 5 3 (some v24)) fun v25 =>
 doQ (qBin env.P .shl 3 (.tmp 44) (.const (.int .u64 8)) (some v25) (some (.v (.int .u64 8)))) fun v26 =>
 doQ (qBin env.P .or 3 (.tmp 40) (.tmp 45) (some v22) (some v26)) fun v27 =>
 doQ (au env.P (Heap.get H9) 68 (some v17) (some (.v (.int .i64 2)))) fun v28 =>
 doQ (an env.P (Heap.get H9) 5 (some v28)) fun v29 =>
 doQ (aJ env.P (Heap.get H9) (⟨0,50,Heap.gen H9 0 50,0⟩:Ref) 5 3 (some v29)) fun v30 =>
 doQ (qBin env.P .or 3 (.tmp 46) (.tmp 50) (some v27) (some v30)) fun v31 =>
 doQ (ab env.P 42 (some v1) 1) fun v32 =>
 doW (aw env.P H9 35 (some v32) (some v18)) fun v33 H10 =>
 doQ (ab env.P 42 (some v1) 2) fun v34 =>
 doW (aw env.P H10 3 (some v34) (some v31)) fun v35 H11 =>
  oJ [(v17,v32),(v19,v32),(v20,v32),(v17,v32),(v23,v32),(v24,v32),(v17,v32),(v28,v32),(v29,v32)] [v32,v34] [] H11 ∧
 (doW (ak env true (limf env) (limt env 0) H11 (⟨0,55,Heap.gen H11 0 55,0⟩:Ref) (some v5) [(.v (.bool false))]) fun v36 H12 =>
 doQ (ab env.P 42 (some v1) 3) fun v37 =>
 doQ (ab env.P 39 (some v37) 0) fun v38 =>
 doW (aw env.P H12 37 (some v38) (some v36)) fun v39 H13 =>
 doW (ak env true (limf env) (limt env 0) H13 (⟨0,59,Heap.gen H13 0 59,0⟩:Ref) (some v4) [(.v (.int .i64 1))]) fun v40 H14 =>
 doQ (au env.P (Heap.get H14) 68 (some v40) (some (.v (.int .i64 0)))) fun v41 =>
 doQ (an env.P (Heap.get H14) 5 (some v41)) fun v42 =>
 doQ (aJ env.P (Heap.get H14) (⟨0,62,Heap.gen H14 0 62,0⟩:Ref) 5 3 (some v42)) fun v43 =>
 doQ (ab env.P 42 (some v1) 3) fun v44 =>
 doQ (ab env.P 39 (some v44) 1) fun v45 =>
 doW (aw env.P H14 3 (some v45) (some v43)) fun v46 H15 =>
 doQ (qNil (some v3)) fun v47 =>
 doQ (ab env.P 166 (some v47) 2) fun v48 =>
 doQ (an env.P (Heap.get H15) 4 (some v48)) fun v49 =>
 gQ v49 false (qVal (some v14)) fun v50 =>
 gQ v49 false (qBin env.P .neq 25 (.tmp 70) (.const (.int .i64 0)) (some v50) (some (.v (.int .i64 0)))) fun v51 =>
 doQ (aY (some v49) (some (.v (.bool true))) (some v51)) fun v52 =>
 gQ v52 false (ab env.P 42 (some v1) 3) fun v53 =>
 gQ v52 false (ab env.P 39 (some v53) 1) fun v54 =>
 gQ v52 false (an env.P (Heap.get H15) 3 (some v54)) fun v55 =>
 gQ v52 false (qBin env.P .gtr 3 (.tmp 76) (.const (.int .i64 64)) (some v55) (some (.v (.int .i64 64)))) fun v56 =>
 doQ (aY (some v52) (some (.v (.bool true))) (some v56)) fun v57 =>
 br (some v57) (
 doQ (bu env.P 42 (some [])) fun v58 =>
 doW (aw env.P H15 42 (some v1) (some v58)) fun v59 H16 =>
 doQ (aE env.P H16 v1 42) fun v60 =>
 Q (.tup [v60,(.v (.int .i64 0)),(.v (.int .i64 8))]) H16) (
 doQ (ab env.P 42 (some v1) 0) fun v58 =>
 doQ (an env.P (Heap.get H15) 5 (some v58)) fun v59 =>
 doQ (qBin env.P .eql 5 (.tmp 81) (.const (.int .u8 1)) (some v59) (some (a8 1))) fun v60 =>
 br (some v60) (
 doW (ak env true (limf env) (limt env 0) H15 (⟨0,85,Heap.gen H15 0 85,0⟩:Ref) (some v5) [(.v (.bool true))]) fun v61 H16 =>
 doQ (ab env.P 42 (some v1) 4) fun v62 =>
 doW (aw env.P H16 37 (some v62) (some v61)) fun v63 H17 =>
 doQ (ab env.P 42 (some v1) 3) fun v64 =>
 doQ (ab env.P 39 (some v64) 1) fun v65 =>
 doQ (an env.P (Heap.get H17) 3 (some v65)) fun v66 =>
 doQ (qBin env.P .mul 3 (.const (.int .i64 4)) (.tmp 91) (some (.v (.int .i64 4))) (some v66)) fun v67 =>
 doW (ak env true (limf env) (limt env 0) H17 (⟨0,93,Heap.gen H17 0 93,0⟩:Ref) (some v4) [v67]) fun v68 H18 =>
 doW (ak env true (limf env) (limt env 0) H18 (⟨0,94,Heap.gen H18 0 94,0⟩:Ref) (some (.fn (.func 97) [] [])) [v68]) fun v69 H19 =>
 doQ (ao (some v69) 0) fun v70 =>
 doQ (ao (some v69) 1) fun v71 =>
 doQ (qNil (some v3)) fun v72 =>
 doQ (ab env.P 166 (some v72) 2) fun v73 =>
 doQ (an env.P (Heap.get H19) 4 (some v73)) fun v74 =>
 gQ v74 false (qVal (some v71)) fun v75 =>
 gQ v74 false (qBin env.P .neq 25 (.tmp 104) (.const (.int .i64 0)) (some v75) (some (.v (.int .i64 0)))) fun v76 =>
 doQ (aY (some v74) (some (.v (.bool true))) (some v76)) fun v77 =>
 doQ (ab env.P 42 (some v1) 6) fun v78 =>
 doW (aw env.P H19 40 (some v78) (some v70)) fun v79 H20 =>
 doQ (qNil (some v3)) fun v80 =>
 doQ (ab env.P 166 (some v80) 2) fun v81 =>
 doW (aw env.P H20 4 (some v81) (some v77)) fun v82 H21 =>
 doQ (qNil (some v3)) fun v83 =>
 doQ (ab env.P 166 (some v83) 2) fun v84 =>
 doQ (an env.P (Heap.get H21) 4 (some v84)) fun v85 =>
 gQ v85 false (an env.P (Heap.get H21) 42 (some v1)) fun v86 =>
 gW v85 false H21 (ak env true (limf env) (limt env 0) H21 (⟨0,141,Heap.gen H21 0 141,0⟩:Ref) (some (.fn (.func 73) [] [])) [v86]) fun v87 H22 =>
 gQ v85 false (qBin env.P .neq 25 (.tmp 141) (.const (.int .i64 0)) (some v87) (some (.v (.int .i64 0)))) fun v88 =>
 doQ (aY (some v85) (some (.v (.bool true))) (some v88)) fun v89 =>
 br (some v89) (
 doQ (bu env.P 42 (some [])) fun v90 =>
 doW (aw env.P H22 42 (some v1) (some v90)) fun v91 H23 =>
 doQ (aE env.P H23 v1 42) fun v92 =>
 Q (.tup [v92,(.v (.int .i64 0)),(.v (.int .i64 8))]) H23) (
 doQ (an env.P (Heap.get H22) 42 (some v1)) fun v90 =>
 doQ (qNil (some v3)) fun v91 =>
 doQ (ab env.P 166 (some v91) 1) fun v92 =>
 doQ (an env.P (Heap.get H22) 3 (some v92)) fun v93 =>
 doW (aw env.P H22 42 (some v1) (some v90)) fun v94 H23 =>
  oJ [(v92,v1)] [v1] [] H23 ∧
 (doQ (aE env.P H23 v1 42) fun v95 =>
 Q (.tup [v95,v93,(.v (.int .i64 0))]) H23))) (
 doQ (qBin env.P .eql 5 (.tmp 81) (.const (.int .u8 3)) (some v59) (some (a8 3))) fun v61 =>
 br (some v61) (
 doW (ak env true (limf env) (limt env 0) H15 (⟨0,114,Heap.gen H15 0 114,0⟩:Ref) (some v4) [(.v (.int .i64 5))]) fun v62 H16 =>
 doW (ak env true (limf env) (limt env 0) H16 (⟨0,115,Heap.gen H16 0 115,0⟩:Ref) (some (.fn (.func 98) [] [])) [v62]) fun v63 H17 =>
 doW (fX env.P false true H17 (⟨0,116,Heap.gen H17 0 116,0⟩:Ref) 68 1 (some [(0,(a8 0))])) fun v64 H18 =>
 doW (bQ env.P true H18 (⟨0,117,Heap.gen H18 0 117,0⟩:Ref) (some 68) (some 68) v63 v64) fun v65 H19 =>
 doW (ak env true (limf env) (limt env 0) H19 (⟨0,118,Heap.gen H19 0 118,0⟩:Ref) (some (.fn (.func 81) [] [])) [v65]) fun v66 H20 =>
 doQ (ao (some v66) 0) fun v67 =>
 doQ (ao (some v66) 1) fun v68 =>
 doW (nRes H20 (⟨0,13,Heap.gen H20 0 13,0⟩:Ref) (bO env.P (⟨0,13,Heap.gen H20 0 13,0⟩:Ref) 35)) fun v69 H21 =>
 doW (aw env.P H21 35 (some v69) (some v67)) fun v70 H22 =>
 doQ (ab env.P 35 (some v69) 0) fun v71 =>
 doQ (an env.P (Heap.get H22) 33 (some v71)) fun v72 =>
 doQ (qNil (some v3)) fun v73 =>
 doQ (ab env.P 166 (some v73) 2) fun v74 =>
 doQ (an env.P (Heap.get H22) 4 (some v74)) fun v75 =>
 gQ v75 false (qVal (some v68)) fun v76 =>
 gQ v75 false (qBin env.P .neq 25 (.tmp 129) (.const (.int .i64 0)) (some v76) (some (.v (.int .i64 0)))) fun v77 =>
 doQ (aY (some v75) (some (.v (.bool true))) (some v77)) fun v78 =>
 doQ (ab env.P 42 (some v1) 5) fun v79 =>
 doW (aw env.P H22 33 (some v79) (some v72)) fun v80 H23 =>
 doQ (qNil (some v3)) fun v81 =>
 doQ (ab env.P 166 (some v81) 2) fun v82 =>
 doW (aw env.P H23 4 (some v82) (some v78)) fun v83 H24 =>
 doQ (qNil (some v3)) fun v84 =>
 doQ (ab env.P 166 (some v84) 2) fun v85 =>
 doQ (an env.P (Heap.get H24) 4 (some v85)) fun v86 =>
 gQ v86 false (an env.P (Heap.get H24) 42 (some v1)) fun v87 =>
 gW v86 false H24 (ak env true (limf env) (limt env 0) H24 (⟨0,141,Heap.gen H24 0 141,0⟩:Ref) (some (.fn (.func 73) [] [])) [v87]) fun v88 H25 =>
 gQ v86 false (qBin env.P .neq 25 (.tmp 141) (.const (.int .i64 0)) (some v88) (some (.v (.int .i64 0)))) fun v89 =>
 doQ (aY (some v86) (some (.v (.bool true))) (some v89)) fun v90 =>
 br (some v90) (
 doQ (bu env.P 42 (some [])) fun v91 =>
 doW (aw env.P H25 42 (some v1) (some v91)) fun v92 H26 =>
 doQ (aE env.P H26 v1 42) fun v93 =>
 Q (.tup [v93,(.v (.int .i64 0)),(.v (.int .i64 8))]) H26) (
 doQ (an env.P (Heap.get H25) 42 (some v1)) fun v91 =>
 doQ (qNil (some v3)) fun v92 =>
 doQ (ab env.P 166 (some v92) 1) fun v93 =>
 doQ (an env.P (Heap.get H25) 3 (some v93)) fun v94 =>
 doW (
  aw env.P H25 42 (some v1) (some v91)) fun v95 H26 =>
  oJ [(v93,v1)] [v1] [] H26 ∧
 (doQ (aE env.P H26 v1 42) fun v96 =>
 Q (.tup [v96,v94,(.v (.int .i64 0))]) H26))) (
 doQ (qNil (some v3)) fun v62 =>
 doQ (ab env.P 166 (some v62) 2) fun v63 =>
 doQ (an env.P (Heap.get H15) 4 (some v63)) fun v64 =>
 gQ v64 false (an env.P (Heap.get H15) 42 (some v1)) fun v65 =>
 gW v64 false H15 (ak env true (limf env) (limt env 0) H15 (⟨0,141,Heap.gen H15 0 141,0⟩:Ref) (some (.fn (.func 73) [] [])) [v65]) fun v66 H16 =>
 gQ v64 false (qBin env.P .neq 25 (.tmp 141) (.const (.int .i64 0)) (some v66) (some (.v (.int .i64 0)))) fun v67 =>
 doQ (aY (some v64) (some (.v (.bool true))) (some v67)) fun v68 =>
 br (some v68) (
 doQ (bu env.P 42 (some [])) fun v69 =>
 doW (aw env.P H16 42 (some v1) (some v69)) fun v70 H17 =>
 doQ (aE env.P H17 v1 42) fun v71 =>
 Q (.tup [v71,(.v (.int .i64 0)),(.v (.int .i64 8))]) H17) (
 doQ (an env.P (Heap.get H16) 42 (some v1)) fun v69 =>
 doQ (qNil (some v3)) fun v70 =>
 doQ (ab env.P 166 (some v70) 1) fun v71 =>
 doQ (an env.P (Heap.get H16) 3 (some v71)) fun v72 =>
 doW (
  aw env.P H16 42 (some v1) (some v69)) fun v73 H17 =>
  oJ [(v71,v1)] [v1] [] H17 ∧
 (doQ (aE env.P H17 v1 42) fun v74 =>
 Q (.tup [v74,v72,(.v (.int .i64 0))]) H17))))))
theorem GI:w6=fun g x0 H Q=>wp env Try.f82 none 0 Io Je Q 500 [.code wW] (ofL g [(0,x0)]) H:=by kernel_rfl
theorem GL (x0:AV) (H:Heap) (Q:AV→Heap→Prop) (h : ∀g,w6 g x0 H Q):GoL env Try.f82 0 [.code wW] [(0,x0)] H Q:=⟨fun g=>bg (by have h:=h g;rw [GI] at h;exact h)⟩
noncomputable def cI:Code:=(Try.f47.body).getD .skip
noncomputable def bL:List Item:=(bP 3 400 [.code cI]).getD []
noncomputable def bI:List Item:=(bP 11 400 [.code cI]).getD []
def eJ:Nat→Option (List Nat):=fun i=>cond (Nat.beq i 3) (some [11,3,9,0,10]) (cond (Nat.beq i 11) (some [27,6,25,26]) (none))
def eK:Nat→Bool:=fun i=>false
def eN (g:Nat→AV) (x0:AV) (H:Heap) (Q:AV→Heap→Prop):Prop :=
 doQ (ay env.P false (Heap.get H) (⟨0,10,Heap.gen H 0 10,0⟩:Ref) .len #[79] [x0]) fun v1 =>
  GoL env Try.f47 0 bL [(11,(.v (.int .i64 0))),(3,(.v (.int .i64 0))),(9,x0),(0,x0),(10,v1)] H Q
theorem lA:eN=fun g x0 H Q=>wp env Try.f47 none 0 eJ eK Q 500 [.code cI] (ofL g [(0,x0)]) H:=by kernel_rfl
theorem lD (x0:AV) (H:Heap) (Q:AV→Heap→Prop) (h : ∀g,eN g x0 H Q):GoL env Try.f47 0 [.code cI] [(0,x0)] H Q:=⟨fun g=>bg (by have h:=h g;rw [lA] at h;exact h)⟩
def da (g:Nat→AV) (x11 x3 x9 x0 x10:AV) (H:Heap) (Q:AV→Heap→Prop):Prop :=
 doQ (qBin env.P .lss 3 (.tmp 11) (.tmp 10) (some x11) (some x10)) fun v1 =>
 br (some v1) (
 doQ (au env.P (Heap.get H) 79 (some x9) (some x11)) fun v2 =>
 doQ (an env.P (Heap.get H) 68 (some v2)) fun v3 =>
 doQ (ay env.P false (Heap.get H) (⟨0,17,Heap.gen H 0 17,0⟩:Ref) .len #[68] [v3]) fun v4 =>
 doQ (qBin env.P .add 3 (.tmp 15) (.tmp 17) (some x3) (some v4)) fun v5 =>
 doQ (qBin env.P .lss 3 (.tmp 19) (.const (.int .i64 0)) (some v5) (some (.v (.int .i64 0)))) fun v6 =>
 br (some v6) (
 doQ (sH env.P 9 (some (.v (.string ⟨#[108,101,110,32,111,117,116,32,111,102,32,114,97,110,103,101]⟩)))) fun v7 =>
 doQ (none) fun v8 =>
 doQ (qBin env.P .add 3 (.tmp 11) (.const (.int .i64 1)) (some x11) (some (.v (.int .i64 1)))) fun v9 =>
  GoL env Try.f47 0 bL [(11,v9),(3,v5),(9,x9),(0,x0),(10,x10)] H Q) (
 doQ (qBin env.P .add 3 (.tmp 11) (.const (.int .i64 1)) (some x11) (some (.v (.int .i64 1)))) fun v7 =>
  GoL env Try.f47 0 bL [(11,v7),(3,v5),(9,x9),(0,x0),(10,x10)] H Q)) (
 doW (ak env true (limf env) (limt env 0) H (⟨0,24,Heap.gen H 0 24,0⟩:Ref) (some (.fn (.func 65) [] [])) [(.v (.slice none 0 0)),x3]) fun v2 H1 =>
 doQ (ay env.P false (Heap.get H1) (⟨0,26,Heap.gen H1 0 26,0⟩:Ref) .len #[79] [x0]) fun v3 =>
  GoL env Try.f47 0 bI [(27,(.v (.int .i64 0))),(6,v2),(25,x0),(26,v3)] H1 Q)
theorem ko:da=fun g x11 x3 x9 x0 x10 H Q=>wp env Try.f47 none 0 eJ eK Q 500 (fk bL) (ofL g [(11,x11),(3,x3),(9,x9),(0,x0),(10,x10)]) H:=by kernel_rfl
theorem fU (x11 x3 x9 x0 x10:AV) (H:Heap) (Q:AV→Heap→Prop) (h : ∀g,da g x11 x3 x9 x0 x10 H Q):GoL env Try.f47 0 bL [(11,x11),(3,x3),(9,x9),(0,x0),(10,x10)] H Q:=cQ fun g=>bg (by have h:=h g;rw [ko] at h;exact h)
def cw (g:Nat→AV) (x27 x6 x25 x26:AV) (H:Heap) (Q:AV→Heap→Prop):Prop :=
 doQ (qBin env.P .lss 3 (.tmp 27) (.tmp 26) (some x27) (some x26)) fun v1 =>
 br (some v1) (
 doQ (au env.P (Heap.get H) 79 (some x25) (some x27)) fun v2 =>
 doQ (an env.P (Heap.get H) 68 (some v2)) fun v3 =>
 doW (bQ env.P true H (⟨0,33,Heap.gen H 0 33,0⟩:Ref) (some 68) (some 68) x6 v3) fun v4 H1 =>
 doQ (qBin env.P .add 3 (.tmp 27) (.const (.int .i64 1)) (some x27) (some (.v (.int .i64 1)))) fun v5 =>
  GoL env Try.f47 0 bI [(27,v5),(6,v4),(25,x25),(26,x26)] H1 Q) (
 Q x6 H)
theorem kg:cw=fun g x27 x6 x25 x26 H Q=>wp env Try.f47 none 0 eJ eK Q 500 (fk bI) (ofL g [(27,x27),(6,x6),(25,x25),(26,x26)]) H:=by kernel_rfl
theorem fQ (x27 x6 x25 x26:AV) (H:Heap) (Q:AV→Heap→Prop) (h : ∀g,cw g x27 x6 x25 x26 H Q):GoL env Try.f47 0 bI [(27,x27),(6,x6),(25,x25),(26,x26)] H Q:=cQ fun g=>bg (by have h:=h g;rw [kg] at h;exact h)
noncomputable def ng:Code:=(Try.f75.body).getD .skip
noncomputable def iU:List Item:=(bP 6 400 [.code ng]).getD []
def ue:Nat→Option (List Nat):=fun i=>cond (Nat.beq i 6) (some [15,5,13,14]) (none)
def uq:Nat→Bool:=fun i=>false
def nm (g:Nat→AV) (x0:AV) (H:Heap) (Q:AV→Heap→Prop):Prop :=
 doW (ak env true (limf env) (limt env 0) H (⟨0,9,Heap.gen H 0 9,0⟩:Ref) (some (.fn (.func 89) [] [])) [x0]) fun v1 H1 =>
 doQ (qBin env.P .neq 25 (.tmp 10) (.const (.int .i64 0)) (some v1) (some (.v (.int .i64 0)))) fun v2 =>
 br (some v2) (
 Q (.tup [(.v (.slice none 0 0)),v1]) H1) (
 doQ (ay env.P false (Heap.get H1) (⟨0,14,Heap.gen H1 0 14,0⟩:Ref) .len #[40] [x0]) fun v3 =>
  GoL env Try.f75 0 iU [(15,(.v (.int .i64 0))),(5,(.v (.slice none 0 0))),(13,x0),(14,v3)] H1 Q)
theorem AU:nm=fun g x0 H Q=>wp env Try.f75 none 0 ue uq Q 500 [.code ng] (ofL g [(0,x0)]) H:=by kernel_rfl
theorem Be (x0:AV) (H:Heap) (Q:AV→Heap→Prop) (h : ∀g,nm g x0 H Q):GoL env Try.f75 0 [.code ng] [(0,x0)] H Q:=⟨fun g=>bg (by have h:=h g;rw [AU] at h;exact h)⟩
def ja (g:Nat→AV) (x15 x5 x13 x14:AV) (H:Heap) (Q:AV→Heap→Prop):Prop :=
 doQ (qBin env.P .lss 3 (.tmp 15) (.tmp 14) (some x15) (some x14)) fun v1 =>
 br (some v1) (
 doQ (au env.P (Heap.get H) 40 (some x13) (some x15)) fun v2 =>
 doQ (an env.P (Heap.get H) 21 (some v2)) fun v3 =>
 doQ (qBin env.P .shr 21 (.tmp 20) (.const (.int .u64 24)) (some v3) (some (.v (.int .u64 24)))) fun v4 =>
 doQ (aJ env.P (Heap.get H) (⟨0,22,Heap.gen H 0 22,0⟩:Ref) 21 5 (some v4)) fun v5 =>
 doQ (qBin env.P .shr 21 (.tmp 23) (.const (.int .u64 16)) (some v3) (some (.v (.int .u64 16)))) fun v6 =>
 doQ (aJ env.P (Heap.get H) (⟨0,25,Heap.gen H 0 25,0⟩:Ref) 21 5 (some v6)) fun v7 =>
 doQ (qBin env.P .shr 21 (.tmp 26) (.const (.int .u64 8)) (some v3) (some (.v (.int .u64 8)))) fun v8 =>
 doQ (aJ env.P (Heap.get H) (⟨0,28,Heap.gen H 0 28,0⟩:Ref) 21 5 (some v8)) fun v9 =>
 doQ (aJ env.P (Heap.get H) (⟨0,30,Heap.gen H 0 30,0⟩:Ref) 21 5 (some v3)) fun v10 =>
 doW (fX env.P false true H (⟨0,31,Heap.gen H 0 31,0⟩:Ref) 68 4 (some [(0,v5),(1,v7),(2,v9),(3,v10)])) fun v11 H1 =>
 doW (bQ env.P true H1 (⟨0,32,Heap.gen H1 0 32,0⟩:Ref) (some 68) (some 68) x5 v11) fun v12 H2 =>
 doQ (qBin env.P .add 3 (.tmp 15) (.const (.int .i64 1)) (some x15) (some (.v (.int .i64 1)))) fun v13 =>
  GoL env Try.f75 0 iU [(15,v13),(5,v12),(13,x13),(14,x14)] H2 Q) (
 Q (.tup [x5,(.v (.int .i64 0))]) H)
theorem xf:ja=fun g x15 x5 x13 x14 H Q=>wp env Try.f75 none 0 ue uq Q 500 (fk iU) (ofL g [(15,x15),(5,x5),(13,x13),(14,x14)]) H:=by kernel_rfl
theorem rf (x15 x5 x13 x14:AV) (H:Heap) (Q:AV→Heap→Prop) (h : ∀g,ja g x15 x5 x13 x14 H Q):GoL env Try.f75 0 iU [(15,x15),(5,x5),(13,x13),(14,x14)] H Q:=cQ fun g=>bg (by have h:=h g;rw [xf] at h;exact h)
noncomputable def ei:Code:=(Try.f95.body).getD .skip
def kA:Nat→Option (List Nat):=fun i=>none
def kD:Nat→Bool:=fun i=>false
def cD (dep:Nat) (g:Nat→AV) (x0 x1:AV) (H:Heap) (Q:AV→Heap→Prop):Prop :=
 doQ (qNil (some x0)) fun v1 =>
 doQ (ab env.P 166 (some v1) 2) fun v2 =>
 doQ (an env.P (Heap.get H) 4 (some v2)) fun v3 =>
 gQ v3 false (qVal (some x0)) fun v4 =>
 gQ v3 false (qNil (some v4)) fun v5 =>
 gQ v3 false (ab env.P 166 (some v5) 0) fun v6 =>
 gQ v3 false (an env.P (Heap.get H) 68 (some v6)) fun v7 =>
 gQ v3 false (ay env.P false (Heap.get H) (⟨(dep+1),15,Heap.gen H (dep+1) 15,0⟩:Ref) .len #[68] [v7]) fun v8 =>
 gQ v3 false (qVal (some x0)) fun v9 =>
 gQ v3 false (qNil (some v9)) fun v10 =>
 gQ v3 false (ab env.P 166 (some v10) 1) fun v11 =>
 gQ v3 false (an env.P (Heap.get H) 3 (some v11)) fun v12 =>
 gQ v3 false (qBin env.P .sub 3 (.tmp 15) (.tmp 19) (some v8) (some v12)) fun v13 =>
 gQ v3 false (qVal (some x1)) fun v14 =>
 gQ v3 false (qBin env.P .lss 3 (.tmp 20) (.tmp 21) (some v13) (some v14)) fun v15 =>
 doQ (aY (some v3) (some (.v (.bool true))) (some v15)) fun v16 =>
 doQ (qNil (some x0)) fun v17 =>
 doQ (ab env.P 166 (some v17) 2) fun v18 =>
 doW (aw env.P H 4 (some v18) (some v16)) fun v19 H1 =>
 doQ (qNil (some x0)) fun v20 =>
 doQ (ab env.P 166 (some v20) 2) fun v21 =>
 doQ (an env.P (Heap.get H1) 4 (some v21)) fun v22 =>
 br (some v22) (
 doW (nRes H1 (⟨(dep+1),31,Heap.gen H1 (dep+1) 31,0⟩:Ref) (rJ env.P (⟨(dep+1),31,Heap.gen H1 (dep+1) 31,0⟩:Ref) 68 (some x1) (some x1))) fun v23 H2 =>
 Q v23 H2) (
 doQ (qNil (some x0)) fun v23 =>
 doQ (ab env.P 166 (some v23) 1) fun v24 =>
 doQ (an env.P (Heap.get H1) 3 (some v24)) fun v25 =>
 doQ (qBin env.P .add 3 (.tmp 35) (.tmp 36) (some v25) (some x1)) fun v26 =>
 doQ (qNil (some x0)) fun v27 =>
 doQ (ab env.P 166 (some v27) 1) fun v28 =>
 doW (aw env.P H1 3 (some v28) (some v26)) fun v29 H2 =>
 doQ (qNil (some x0)) fun v30 =>
 doQ (ab env.P 166 (some v30) 0) fun v31 =>
 doQ (an env.P (Heap.get H2) 68 (some v31)) fun v32 =>
 doQ (qNil (some x0)) fun v33 =>
 doQ (ab env.P 166 (some v33) 1) fun v34 =>
 doQ (an env.P (Heap.get H2) 3 (some v34)) fun v35 =>
 doQ (qBin env.P .sub 3 (.tmp 47) (.tmp 48) (some v35) (some x1)) fun v36 =>
 doQ (qNil (some x0)) fun v37 =>
 doQ (ab env.P 166 (some v37) 1) fun v38 =>
 doQ (an env.P (Heap.get H2) 3 (some v38)) fun v39 =>
 doQ (bK env.P (Heap.get H2) 68 (some v32) (oi v36) (oi v39) (some none)) fun v40 =>
 Q v40 H2)
theorem kq (dep:Nat):cD dep=fun g x0 x1 H Q=>wp env Try.f95 none (dep+1) kA kD Q 500 [.code ei] (ofL g [(0,x0),(1,x1)]) H:=by kernel_rfl
theorem kr (dep:Nat) (x0 x1:AV) (H:Heap) (Q:AV→Heap→Prop) (h : ∀g,cD dep g x0 x1 H Q):GoL env Try.f95 (dep+1) [.code ei] [(0,x0),(1,x1)] H Q:=⟨fun g=>bg (by have h:=h g;rw [kq] at h;exact h)⟩
noncomputable def eL:Code:=(Try.f96.body).getD .skip
def lH:Nat→Option (List Nat):=fun i=>none
def lJ:Nat→Bool:=fun i=>false
def cK (dep:Nat) (g:Nat→AV) (x0 x1:AV) (H:Heap) (Q:AV→Heap→Prop):Prop :=
 doW (nRes H (⟨(dep+1),4,Heap.gen H (dep+1) 4,0⟩:Ref) (bO env.P (⟨(dep+1),4,Heap.gen H (dep+1) 4,0⟩:Ref) 37)) fun v1 H1 =>
 doW (ak env true (limf env) (limt env (dep+1)) H1 (⟨(dep+1),10,Heap.gen H1 (dep+1) 10,0⟩:Ref) (some (.fn (.func 95) [] [])) [x0,(.v (.int .i64 13))]) fun v2 H2 =>
 doW (ak env true (limf env) (limt env (dep+1)) H2 (⟨(dep+1),13,Heap.gen H2 (dep+1) 13,0⟩:Ref) (some (.fn (.func 111) [] [])) [v2]) fun v3 H3 =>
 doQ (ao (some v3) 0) fun v4 =>
 doQ (ao (some v3) 1) fun v5 =>
 doW (nRes H3 (⟨(dep+1),6,Heap.gen H3 (dep+1) 6,0⟩:Ref) (bO env.P (⟨(dep+1),6,Heap.gen H3 (dep+1) 6,0⟩:Ref) 37)) fun v6 H4 =>
 doW (aw env.P H4 37 (some v6) (some v4)) fun v7 H5 =>
 gQ x1 true (qVal (some v2)) fun v8 =>
 gW x1 true H5 (nRes H5 (⟨(dep+1),19,Heap.gen H5 (dep+1) 19,0⟩:Ref) (rJ env.P (⟨(dep+1),19,Heap.gen H5 (dep+1) 19,0⟩:Ref) 68 (some (.v (.int .i64 13))) (some (.v (.int .i64 13))))) fun v9 H6 =>
 gW x1 true H6 (ak env true (limf env) (limt env (dep+1)) H6 (⟨(dep+1),20,Heap.gen H6 (dep+1) 20,0⟩:Ref) (some (.fn (.func 69) [] [])) [v8,v9]) fun v10 H7 =>
 doQ (aY (some x1) (some v10) (some (.v (.bool false)))) fun v11 =>
 doQ (qNil (some x0)) fun v12 =>
 doQ (ab env.P 166 (some v12) 2) fun v13 =>
 doQ (an env.P (Heap.get H7) 4 (some v13)) fun v14 =>
 gQ v14 false (qVal (some v5)) fun v15 =>
 gQ v14 false (qBin env.P .neq 25 (.tmp 28) (.const (.int .i64 0)) (some v15) (some (.v (.int .i64 0)))) fun v16 =>
 gQ v14 false (qVal (some v16)) fun v17 =>
 gQ v17 true (qVal (some v11)) fun v18 =>
 gQ v17 true (qUn env.P .not (some v18)) fun v19 =>
 gQ v14 false (aY (some v17) (some v19) (some (.v (.bool false)))) fun v20 =>
 doQ (aY (some v14) (some (.v (.bool true))) (some v20)) fun v21 =>
 doQ (qNil (some x0)) fun v22 =>
 doQ (ab env.P 166 (some v22) 2) fun v23 =>
 doW (aw env.P H7 4 (some v23) (some v21)) fun v24 H8 =>
 doQ (an env.P (Heap.get H8) 37 (some v6)) fun v25 =>
 doW (aw env.P H8 37 (some v1) (some v25)) fun v26 H9 =>
 doQ (aE env.P H9 v1 37) fun v27 =>
 Q v27 H9
theorem lB (dep:Nat):cK dep=fun g x0 x1 H Q=>wp env Try.f96 none (dep+1) lH lJ Q 500 [.code eL] (ofL g [(0,x0),(1,x1)]) H:=by kernel_rfl
theorem lE (dep:Nat) (x0 x1:AV) (H:Heap) (Q:AV→Heap→Prop) (h : ∀g,cK dep g x0 x1 H Q):GoL env Try.f96 (dep+1) [.code eL] [(0,x0),(1,x1)] H Q:=⟨fun g=>bg (by have h:=h g;rw [lB] at h;exact h)⟩
noncomputable def nh:Code:=(Try.f97.body).getD .skip
noncomputable def fC:List Item:=(gT 10006 400 [.code nh]).getD []
noncomputable def cF:Code:=rfA fC
noncomputable def cE:Code:=rfB fC
noncomputable def jJ:List Item:=rfK fC
def qn:Nat→Option (List Nat):=fun i=>cond (Nat.beq i 10006) (some [16,2]) (none)
def qv:Nat→Bool:=fun i=>false
def qF (g:Nat→AV) (x0:AV) (H:Heap) (Q:AV→Heap→Prop):Prop :=
 doW (nRes H (⟨0,2,Heap.gen H 0 2,0⟩:Ref) (bO env.P (⟨0,2,Heap.gen H 0 2,0⟩:Ref) 40)) fun v1 H1 =>
 doQ (ay env.P false (Heap.get H1) (⟨0,8,Heap.gen H1 0 8,0⟩:Ref) .len #[68] [x0]) fun v2 =>
 doQ (qBin env.P .gtr 3 (.tmp 8) (.const (.int .i64 256)) (some v2) (some (.v (.int .i64 256)))) fun v3 =>
 br (some v3) (
 doW (aw env.P H1 40 (some v1) (some (.v (.slice none 0 0)))) fun v4 H2 =>
 doQ (aE env.P H2 v1 40) fun v5 =>
 Q (.tup [v5,(.v (.int .i64 4))]) H2) (
 doQ (ay env.P false (Heap.get H1) (⟨0,12,Heap.gen H1 0 12,0⟩:Ref) .len #[68] [x0]) fun v4 =>
 doQ (qBin env.P .rem 3 (.tmp 12) (.const (.int .i64 4)) (some v4) (some (.v (.int .i64 4)))) fun v5 =>
 doQ (qBin env.P .gtr 3 (.tmp 13) (.const (.int .i64 0)) (some v5) (some (.v (.int .i64 0)))) fun v6 =>
 br (some v6) (
 doW (aw env.P H1 40 (some v1) (some (.v (.slice none 0 0)))) fun v7 H2 =>
 doQ (aE env.P H2 v1 40) fun v8 =>
 Q (.tup [v8,(.v (.int .i64 8))]) H2) (
 doW (ak env true (limf env) (limt env 0) H1 (⟨0,16,Heap.gen H1 0 16,0⟩:Ref) (some (.fn (.func 46) [] [])) [x0,(.v (.int .i64 4))]) fun v7 H2 =>
  GoL env Try.f97 0 fC [(16,v7),(2,v1)] H2 Q))
theorem AW:qF=fun g x0 H Q=>wp env Try.f97 none 0 qn qv Q 500 [.code nh] (ofL g [(0,x0)]) H:=by kernel_rfl
theorem Bf (x0:AV) (H:Heap) (Q:AV→Heap→Prop) (h : ∀g,qF g x0 H Q):GoL env Try.f97 0 [.code nh] [(0,x0)] H Q:=⟨fun g=>bg (by have h:=h g;rw [AW] at h;exact h)⟩
def gH (g:Nat→AV) (x2:AV) (H:Heap) (Q:AV→Heap→Prop):Prop :=
 doQ (an env.P (Heap.get H) 40 (some x2)) fun v1 =>
 doW (ak env true (limf env) (limt env 0) H (⟨0,45,Heap.gen H 0 45,0⟩:Ref) (some (.fn (.func 89) [] [])) [v1]) fun v2 H1 =>
 doQ (qBin env.P .neq 25 (.tmp 46) (.const (.int .i64 0)) (some v2) (some (.v (.int .i64 0)))) fun v3 =>
 br (some v3) (
 doW (aw env.P H1 40 (some x2) (some (.v (.slice none 0 0)))) fun v4 H2 =>
 doQ (aE env.P H2 x2 40) fun v5 =>
 Q (.tup [v5,v2]) H2) (
 doQ (an env.P (Heap.get H1) 40 (some x2)) fun v4 =>
 doW (aw env.P H1 40 (some x2) (some v4)) fun v5 H2 =>
 doQ (aE env.P H2 x2 40) fun v6 =>
 Q (.tup [v6,(.v (.int .i64 0))]) H2)
theorem rq:gH=fun g x2 H Q=>wp env Try.f97 none 0 qn qv Q 500 jJ (ofL g [(2,x2)]) H:=by kernel_rfl
theorem rz (x2:AV) (H:Heap) (Q:AV→Heap→Prop) (h : ∀g,gH g x2 H Q):GoL env Try.f97 0 jJ [(2,x2)] H Q:=⟨fun g=>bg (by have h:=h g;rw [rq] at h;exact h)⟩
def ir (r:Ref) (g:Nat→AV) (x2 x17:AV) (H:Heap) (Q:AV→Heap→Prop):Prop :=
 bgP (lpAt H r) fun i1 =>
 doQ (an env.P (Heap.get (Heap.put H r (some (ee 1 i1)))) 40 (some x2)) fun v2 =>
 doQ (au env.P (Heap.get (Heap.put H r (some (ee 1 i1)))) 68 (some x17) (some (.v (.int .i64 0)))) fun v3 =>
 doQ (an env.P (Heap.get (Heap.put H r (some (ee 1 i1)))) 5 (some v3)) fun v4 =>
 doQ (aJ env.P (Heap.get (Heap.put H r (some (ee 1 i1)))) (⟨2,22,Heap.gen (Heap.put H r (some (ee 1 i1))) 2 22,0⟩:Ref) 5 31 (some v4)) fun v5 =>
 doQ (qBin env.P .shl 31 (.tmp 22) (.const (.int .u64 24)) (some v5) (some (.v (.int .u64 24)))) fun v6 =>
 doQ (au env.P (Heap.get (Heap.put H r (some (ee 1 i1)))) 68 (some x17) (some (.v (.int .i64 1)))) fun v7 =>
 doQ (an env.P (Heap.get (Heap.put H r (some (ee 1 i1)))) 5 (some v7)) fun v8 =>
 doQ (aJ env.P (Heap.get (Heap.put H r (some (ee 1 i1)))) (⟨2,27,Heap.gen (Heap.put H r (some (ee 1 i1))) 2 27,0⟩:Ref) 5 31 (some v8)) fun v9 =>
 doQ (qBin env.P .shl 31 (.tmp 27) (.const (.int .u64 16)) (some v9) (some (.v (.int .u64 16)))) fun v10 =>
 doQ (qBin env.P .or 31 (.tmp 23) (.tmp 28) (some v6) (some v10)) fun v11 =>
 doQ (au env.P (Heap.get (Heap.put H r (some (ee 1 i1)))) 68 (some x17) (some (.v (.int .i64 2)))) fun v12 =>
 doQ (an env.P (Heap.get (Heap.put H r (some (ee 1 i1)))) 5 (some v12)) fun v13 =>
 doQ (aJ env.P (Heap.get (Heap.put H r (some (ee 1 i1)))) (⟨2,33,Heap.gen (Heap.put H r (some (ee 1 i1))) 2 33,0⟩:Ref) 5 31 (some v13)) fun v14 =>
 doQ (qBin env.P .shl 31 (.tmp 33) (.const (.int .u64 8)) (some v14) (some (.v (.int .u64 8)))) fun v15 =>
 doQ (qBin env.P .or 31 (.tmp 29) (.tmp 34) (some v11) (some v15)) fun v16 =>
 doQ (au env.P (Heap.get (Heap.put H r (some (ee 1 i1)))) 68 (some x17) (some (.v (.int .i64 3)))) fun v17 =>
 doQ (an env.P (Heap.get (Heap.put H r (some (ee 1 i1)))) 5 (some v17)) fun v18 =>
 doQ (aJ env.P (Heap.get (Heap.put H r (some (ee 1 i1)))) (⟨2,39,Heap.gen (Heap.put H r (some (ee 1 i1))) 2 39,0⟩:Ref) 5 31 (some v18)) fun v19 =>
 doQ (qBin env.P .or 31 (.tmp 35) (.tmp 39) (some v16) (some v19)) fun v20 =>
 doQ (aJ env.P (Heap.get (Heap.put H r (some (ee 1 i1)))) (⟨2,41,Heap.gen (Heap.put H r (some (ee 1 i1))) 2 41,0⟩:Ref) 31 21 (some v20)) fun v21 =>
 doW (fX env.P true false (Heap.put H r (some (ee 1 i1))) (⟨2,42,Heap.gen (Heap.put H r (some (ee 1 i1))) 2 42,0⟩:Ref) 40 1 (some [(0,v21)])) fun v22 H1 =>
 doW (bQ env.P true H1 (⟨2,43,Heap.gen H1 2 43,0⟩:Ref) (some 40) (some 40) v2 v22) fun v23 H2 =>
 doW (aw env.P H2 40 (some x2) (some v23)) fun v24 H3 =>
 Q (.v (.int .i64 0)) H3
theorem sf (r:Ref):ir r=fun g x2 x17 H Q=>wp env Try.f97 (some r) 2 qn qv Q 500 [.code cF,.beginRound,.code cE] (ofL g [(2,x2),(17,x17)]) H:=by kernel_rfl
theorem sj (r:Ref) (x2 x17:AV) (H:Heap) (Q:AV→Heap→Prop) (h : ∀g,ir r g x2 x17 H Q):GoX env Try.f97 (some r) 2 [.code cF,.beginRound,.code cE] [(2,x2),(17,x17)] H Q:=⟨fun g=>bg (by have h:=h g;rw [sf] at h;exact h)⟩
noncomputable def nQ:Code:=(Try.f98.body).getD .skip
def xT:Nat→Option (List Nat):=fun i=>none
def yf:Nat→Bool:=fun i=>false
def nX (g:Nat→AV) (x0:AV) (H:Heap) (Q:AV→Heap→Prop):Prop :=
 doQ (qBin env.P .eql 68 (.tmp 3) (.const (.slice none 0 0)) (some x0) (some (.v (.slice none 0 0)))) fun v1 =>
 br (some v1) (
 Q (.v (.slice none 0 0)) H) (
 doW (fX env.P false true H (⟨0,5,Heap.gen H 0 5,0⟩:Ref) 68 0 (some [])) fun v2 H1 =>
 doW (bQ env.P true H1 (⟨0,7,Heap.gen H1 0 7,0⟩:Ref) (some 68) (some 68) v2 x0) fun v3 H2 =>
 Q v3 H2)
theorem xt:nX=fun g x0 H Q=>wp env Try.f98 none 0 xT yf Q 500 [.code nQ] (ofL g [(0,x0)]) H:=by kernel_rfl
theorem xG (x0:AV) (H:Heap) (Q:AV→Heap→Prop) (h : ∀g,nX g x0 H Q):GoL env Try.f98 0 [.code nQ] [(0,x0)] H Q:=⟨fun g=>bg (by have h:=h g;rw [xt] at h;exact h)⟩
noncomputable def dE:Code:=(Try.f46.body).getD .skip
def lY:Nat→Option (List Nat):=fun i=>none
def l9:Nat→Bool:=fun i=>false
def dG (g:Nat→AV) (x0 x1:AV) (H:Heap) (Q:AV→Heap→Prop):Prop :=
 doW (nRes H (⟨0,2,Heap.gen H 0 2,0⟩:Ref) (qBox env.P (⟨0,2,Heap.gen H 0 2,0⟩:Ref) 68 (some x0))) fun v1 H1 =>
 doW (nRes H1 (⟨0,3,Heap.gen H1 0 3,0⟩:Ref) (qBox env.P (⟨0,3,Heap.gen H1 0 3,0⟩:Ref) 3 (some x1))) fun v2 H2 =>
 doQ (an env.P (Heap.get H2) 3 (some v2)) fun v3 =>
 doQ (qBin env.P .lss 3 (.tmp 5) (.const (.int .i64 1)) (some v3) (some (.v (.int .i64 1)))) fun v4 =>
 br (some v4) (
 doQ (sH env.P 9 (some (.v (.string ⟨#[99,97,110,110,111,116,32,98,101,32,108,101,115,115,32,116,104,97,110,32,49]⟩)))) fun v5 =>
 doQ (none) fun v6 =>
 doQ (uR (.func 64) (some []) (some [v1,v2])) fun v7 =>
 Q v7 H2) (
 doQ (uR (.func 64) (some []) (some [v1,v2])) fun v5 =>
 Q v5 H2)
theorem lT:dG=fun g x0 x1 H Q=>wp env Try.f46 none 0 lY l9 Q 500 [.code dE] (ofL g [(0,x0),(1,x1)]) H:=by kernel_rfl
theorem hU (x0 x1:AV) (H:Heap) (Q:AV→Heap→Prop) (h : ∀g,dG g x0 x1 H Q):GoL env Try.f46 0 [.code dE] [(0,x0),(1,x1)] H Q:=⟨fun g=>bg (by have h:=h g;rw [lT] at h;exact h)⟩
noncomputable def nP:Code:=(Try.f69.body).getD .skip
def xS:Nat→Option (List Nat):=fun i=>none
def ye:Nat→Bool:=fun i=>false
def gZ (g:Nat→AV) (x0 x1:AV) (H:Heap) (Q:AV→Heap→Prop):Prop :=
 doQ (aJ env.P (Heap.get H) (⟨0,6,Heap.gen H 0 6,0⟩:Ref) 68 9 (some x0)) fun v1 =>
 doQ (aJ env.P (Heap.get H) (⟨0,8,Heap.gen H 0 8,0⟩:Ref) 68 9 (some x1)) fun v2 =>
 doQ (qBin env.P .eql 9 (.tmp 6) (.tmp 8) (some v1) (some v2)) fun v3 =>
 Q v3 H
theorem xr:gZ=fun g x0 x1 H Q=>wp env Try.f69 none 0 xS ye Q 500 [.code nP] (ofL g [(0,x0),(1,x1)]) H:=by kernel_rfl
theorem xF (x0 x1:AV) (H:Heap) (Q:AV→Heap→Prop) (h : ∀g,gZ g x0 x1 H Q):GoL env Try.f69 0 [.code nP] [(0,x0),(1,x1)] H Q:=⟨fun g=>bg (by have h:=h g;rw [xr] at h;exact h)⟩
noncomputable def fl:Code:=(Try.f65.body).getD .skip
def mE:Nat→Option (List Nat):=fun i=>none
def mJ:Nat→Bool:=fun i=>false
def fm (g:Nat→AV) (x0 x1:AV) (H:Heap) (Q:AV→Heap→Prop):Prop :=
 doQ (qBin env.P .lss 3 (.tmp 5) (.const (.int .i64 0)) (some x1) (some (.v (.int .i64 0)))) fun v1 =>
 br (some v1) (
 doQ (sH env.P 9 (some (.v (.string ⟨#[99,97,110,110,111,116,32,98,101,32,110,101,103,97,116,105,118,101]⟩)))) fun v2 =>
 doQ (none) fun v3 =>
 doQ (ay env.P false (Heap.get H) (⟨0,10,Heap.gen H 0 10,0⟩:Ref) .cap #[68] [x0]) fun v4 =>
 doQ (ay env.P false (Heap.get H) (⟨0,12,Heap.gen H 0 12,0⟩:Ref) .len #[68] [x0]) fun v5 =>
 doQ (qBin env.P .sub 3 (.tmp 10) (.tmp 12) (some v4) (some v5)) fun v6 =>
 doQ (qBin env.P .sub 3 (.tmp 8) (.tmp 13) (some x1) (some v6)) fun v7 =>
 doQ (qBin env.P .gtr 3 (.tmp 15) (.const (.int .i64 0)) (some v7) (some (.v (.int .i64 0)))) fun v8 =>
 br (some v8) (
 doQ (ay env.P false (Heap.get H) (⟨0,19,Heap.gen H 0 19,0⟩:Ref) .cap #[68] [x0]) fun v9 =>
 doQ (bK env.P (Heap.get H) 68 (some x0) (some none) (oi v9) (some none)) fun v10 =>
 doW (bQ env.P true H (⟨0,22,Heap.gen H 0 22,0⟩:Ref) (some 68) (some 3) v10 v7) fun v11 H1 =>
 doQ (ay env.P false (Heap.get H1) (⟨0,24,Heap.gen H1 0 24,0⟩:Ref) .len #[68] [x0]) fun v12 =>
 doQ (bK env.P (Heap.get H1) 68 (some v11) (some none) (oi v12) (some none)) fun v13 =>
 Q v13 H1) (
 Q x0 H)) (
 doQ (ay env.P false (Heap.get H) (⟨0,10,Heap.gen H 0 10,0⟩:Ref) .cap #[68] [x0]) fun v2 =>
 doQ (ay env.P false (Heap.get H) (⟨0,12,Heap.gen H 0 12,0⟩:Ref) .len #[68] [x0]) fun v3 =>
 doQ (qBin env.P .sub 3 (.tmp 10) (.tmp 12) (some v2) (some v3)) fun v4 =>
 doQ (qBin env.P .sub 3 (.tmp 8) (.tmp 13) (some x1) (some v4)) fun v5 =>
 doQ (qBin env.P .gtr 3 (.tmp 15) (.const (.int .i64 0)) (some v5) (some (.v (.int .i64 0)))) fun v6 =>
 br (some v6) (
 doQ (ay env.P false (Heap.get H) (⟨0,19,Heap.gen H 0 19,0⟩:Ref) .cap #[68] [x0]) fun v7 =>
 doQ (bK env.P (Heap.get H) 68 (some x0) (some none) (oi v7) (some none)) fun v8 =>
 doW (bQ env.P true H (⟨0,22,Heap.gen H 0 22,0⟩:Ref) (some 68) (some 3) v8 v5) fun v9 H1 =>
 doQ (ay env.P false (Heap.get H1) (⟨0,24,Heap.gen H1 0 24,0⟩:Ref) .len #[68] [x0]) fun v10 =>
 doQ (bK env.P (Heap.get H1) 68 (some v9) (some none) (oi v10) (some none)) fun v11 =>
 Q v11 H1) (
 Q x0 H))
theorem mu:fm=fun g x0 x1 H Q=>wp env Try.f65 none 0 mE mJ Q 500 [.code fl] (ofL g [(0,x0),(1,x1)]) H:=by kernel_rfl
theorem mv (x0 x1:AV) (H:Heap) (Q:AV→Heap→Prop) (h : ∀g,fm g x0 x1 H Q):GoL env Try.f65 0 [.code fl] [(0,x0),(1,x1)] H Q:=⟨fun g=>bg (by have h:=h g;rw [mu] at h;exact h)⟩
noncomputable def cG:Code:=(Try.f64.body).getD .skip
noncomputable def bp:List Item:=(bP 1 400 [.code cG]).getD []
def gm:Nat→Option (List Nat):=fun i=>cond (Nat.beq i 1) (some [2,4,1,0]) (none)
def gr:Nat→Bool:=fun i=>false
def dk (dep:Nat) (g:Nat→AV) (x0 x1 x2:AV) (H:Heap) (Q:AV→Heap→Prop):Prop :=
 GoL env Try.f64 (dep+1) bp [(2,x2),(4,(.v (.int .i64 0))),(1,x1),(0,x0)] H Q
theorem kT (dep:Nat):dk dep=fun g x0 x1 x2 H Q=>wp env Try.f64 none (dep+1) gm gr Q 500 [.code cG] (ofL g [(0,x0),(1,x1),(2,x2)]) H:=by kernel_rfl
theorem gj (dep:Nat) (x0 x1 x2:AV) (H:Heap) (Q:AV→Heap→Prop) (h : ∀g,dk dep g x0 x1 x2 H Q):GoL env Try.f64 (dep+1) [.code cG] [(0,x0),(1,x1),(2,x2)] H Q:=⟨fun g=>bg (by have h:=h g;rw [kT] at h;exact h)⟩
def bq (dep:Nat) (g:Nat→AV) (x2 x4 x1 x0:AV) (H:Heap) (Q:AV→Heap→Prop):Prop :=
 doQ (an env.P (Heap.get H) 68 (some x1)) fun v1 =>
 doQ (ay env.P false (Heap.get H) (⟨(dep+1),8,Heap.gen H (dep+1) 8,0⟩:Ref) .len #[68] [v1]) fun v2 =>
 doQ (qBin env.P .lss 3 (.tmp 6) (.tmp 8) (some x4) (some v2)) fun v3 =>
 br (some v3) (
 doQ (an env.P (Heap.get H) 3 (some x2)) fun v4 =>
 doQ (an env.P (Heap.get H) 68 (some x1)) fun v5 =>
 doQ (bK env.P (Heap.get H) 68 (some v5) (oi x4) (some none) (some none)) fun v6 =>
 doQ (ay env.P false (Heap.get H) (⟨(dep+1),17,Heap.gen H (dep+1) 17,0⟩:Ref) .len #[68] [v6]) fun v7 =>
 doQ (ay env.P true (Heap.get H) (⟨(dep+1),18,Heap.gen H (dep+1) 18,0⟩:Ref) .min #[3,3] [v4,v7]) fun v8 =>
 doQ (an env.P (Heap.get H) 68 (some x1)) fun v9 =>
 doQ (qBin env.P .add 3 (.tmp 22) (.tmp 23) (some x4) (some v8)) fun v10 =>
 doQ (qBin env.P .add 3 (.tmp 25) (.tmp 26) (some x4) (some v8)) fun v11 =>
 doQ (bK env.P (Heap.get H) 68 (some v9) (oi x4) (oi v10) (oi v11)) fun v12 =>
 doW (ak env true (limf env) (limt env (dep+1)) H (⟨(dep+1),29,Heap.gen H (dep+1) 29,0⟩:Ref) (some x0) [v12]) fun v13 H1 =>
 doQ (qUn env.P .not (some v13)) fun v14 =>
 br (some v14) (
 Q (.v (.tuple #[])) H1) (
 doQ (an env.P (Heap.get H1) 3 (some x2)) fun v15 =>
 doQ (qBin env.P .add 3 (.tmp 10) (.tmp 11) (some x4) (some v15)) fun v16 =>
  GoL env Try.f64 (dep+1) bp [(2,x2),(4,v16),(1,x1),(0,x0)] H1 Q)) (
 Q (.v (.tuple #[])) H)
theorem kj (dep:Nat):bq dep=fun g x2 x4 x1 x0 H Q=>wp env Try.f64 none (dep+1) gm gr Q 500 (fk bp) (ofL g [(2,x2),(4,x4),(1,x1),(0,x0)]) H:=by kernel_rfl
theorem ck (dep:Nat) (x2 x4 x1 x0:AV) (H:Heap) (Q:AV→Heap→Prop) (h : ∀g,bq dep g x2 x4 x1 x0 H Q):GoL env Try.f64 (dep+1) bp [(2,x2),(4,x4),(1,x1),(0,x0)] H Q:=cQ fun g=>bg (by have h:=h g;rw [kj] at h;exact h)
end Go.Proofs.Ytmjkpdknicjjgaa
