/-
  What is to be shown of each function, computed from its code. No statement of a seat is proved here.
-/
import Derived.Test.YtmjkpdknicjjgaaLgTy
set_option linter.unusedVariables false
set_option maxRecDepth 1000000
namespace Go.Proofs.Ytmjkpdknicjjgaa
open Go.Ab
noncomputable def nJ:Code:=(Try.f57.body).getD .skip
def xM:Nat→Option (List Nat):=fun i=>none
def xY:Nat→Bool:=fun i=>false
def fM (g:Nat→AV) (x0 x1:AV) (H:Heap) (Q:AV→Heap→Prop):Prop :=
 doW (nRes H (⟨0,2,Heap.gen H 0 2,0⟩:Ref) (qBox env.P (⟨0,2,Heap.gen H 0 2,0⟩:Ref) 48 (some x0))) fun v1 H1 =>
 doW (nRes H1 (⟨0,3,Heap.gen H1 0 3,0⟩:Ref) (qBox env.P (⟨0,3,Heap.gen H1 0 3,0⟩:Ref) 48 (some x1))) fun v2 H2 =>
 doQ (ab env.P 48 (some v1) 0) fun v3 =>
 doQ (an env.P (Heap.get H2) 5 (some v3)) fun v4 =>
 doQ (ab env.P 48 (some v2) 0) fun v5 =>
 doQ (an env.P (Heap.get H2) 5 (some v5)) fun v6 =>
 doQ (qBin env.P .eql 5 (.tmp 6) (.tmp 8) (some v4) (some v6)) fun v7 =>
 gQ v7 true (ab env.P 48 (some v1) 1) fun v8 =>
 gQ v7 true (an env.P (Heap.get H2) 3 (some v8)) fun v9 =>
 gQ v7 true (ab env.P 48 (some v2) 1) fun v10 =>
 gQ v7 true (an env.P (Heap.get H2) 3 (some v10)) fun v11 =>
 gQ v7 true (qBin env.P .eql 3 (.tmp 12) (.tmp 14) (some v9) (some v11)) fun v12 =>
 doQ (aY (some v7) (some v12) (some (.v (.bool false)))) fun v13 =>
 gQ v13 true (ab env.P 48 (some v1) 2) fun v14 =>
 gQ v13 true (an env.P (Heap.get H2) 42 (some v14)) fun v15 =>
 gQ v13 true (ab env.P 48 (some v2) 2) fun v16 =>
 gQ v13 true (an env.P (Heap.get H2) 42 (some v16)) fun v17 =>
 gW v13 true H2 (ak env true (limf env) (limt env 0) H2 (⟨0,22,Heap.gen H2 0 22,0⟩:Ref) (some (.fn (.func 78) [] [])) [v15,v17]) fun v18 H3 =>
 doQ (aY (some v13) (some v18) (some (.v (.bool false)))) fun v19 =>
 gQ v19 true (ab env.P 48 (some v1) 3) fun v20 =>
 gQ v19 true (an env.P (Heap.get H3) 25 (some v20)) fun v21 =>
 gQ v19 true (ab env.P 48 (some v2) 3) fun v22 =>
 gQ v19 true (an env.P (Heap.get H3) 25 (some v22)) fun v23 =>
 gQ v19 true (qBin env.P .eql 25 (.tmp 26) (.tmp 28) (some v21) (some v23)) fun v24 =>
 doQ (aY (some v19) (some v24) (some (.v (.bool false)))) fun v25 =>
 gQ v25 true (ab env.P 48 (some v1) 4) fun v26 =>
 gQ v25 true (an env.P (Heap.get H3) 46 (some v26)) fun v27 =>
 gQ v25 true (ab env.P 48 (some v2) 4) fun v28 =>
 gQ v25 true (an env.P (Heap.get H3) 46 (some v28)) fun v29 =>
 gQ v25 true (qBin env.P .eql 46 (.tmp 33) (.tmp 35) (some v27) (some v29)) fun v30 =>
 doQ (aY (some v25) (some v30) (some (.v (.bool false)))) fun v31 =>
 Q v31 H3
theorem xi:fM=fun g x0 x1 H Q=>wp env Try.f57 none 0 xM xY Q 500 [.code nJ] (ofL g [(0,x0),(1,x1)]) H:=by kernel_rfl
theorem xz (x0 x1:AV) (H:Heap) (Q:AV→Heap→Prop) (h : ∀g,fM g x0 x1 H Q):GoL env Try.f57 0 [.code nJ] [(0,x0),(1,x1)] H Q:=⟨fun g=>bg (by have h:=h g;rw [xi] at h;exact h)⟩
noncomputable def mM:Code:=(Try.f20.body).getD .skip
def wy:Nat→Option (List Nat):=fun i=>none
def wN:Nat→Bool:=fun i=>false
def j7 (g:Nat→AV) (x0:AV) (H:Heap) (Q:AV→Heap→Prop):Prop :=
 doW (nRes H (⟨0,1,Heap.gen H 0 1,0⟩:Ref) (qBox env.P (⟨0,1,Heap.gen H 0 1,0⟩:Ref) 48 (some x0))) fun v1 H1 =>
 doQ (an env.P (Heap.get H1) 48 (some v1)) fun v2 =>
 doQ (bu env.P 87 (some [(0,v2)])) fun v3 =>
 doW (ak env true (limf env) (limt env 0) H1 (⟨0,9,Heap.gen H1 0 9,0⟩:Ref) (some (.fn (.func 36) [] [])) [v3]) fun v4 H2 =>
 doQ (ao (some v4) 0) fun v5 =>
 doQ (ao (some v4) 1) fun v6 =>
 doQ (qUn env.P .not (some v6)) fun v7 =>
 br (some v7) (
 Q (.tup [(.v (.int .i64 0)),(.v (.int .i64 8))]) H2) (
 doQ (ay env.P false (Heap.get H2) (⟨0,15,Heap.gen H2 0 15,0⟩:Ref) .len #[68] [v5]) fun v8 =>
 doQ (qBin env.P .add 3 (.tmp 15) (.const (.int .i64 119)) (some v8) (some (.v (.int .i64 119)))) fun v9 =>
 doQ (qBin env.P .sub 3 (.tmp 16) (.const (.int .i64 1)) (some v9) (some (.v (.int .i64 1)))) fun v10 =>
 doQ (qBin env.P .quo 3 (.tmp 17) (.const (.int .i64 119)) (some v10) (some (.v (.int .i64 119)))) fun v11 =>
 Q (.tup [v11,(.v (.int .i64 0))]) H2)
theorem vF:j7=fun g x0 H Q=>wp env Try.f20 none 0 wy wN Q 500 [.code mM] (ofL g [(0,x0)]) H:=by kernel_rfl
theorem vK (x0:AV) (H:Heap) (Q:AV→Heap→Prop) (h : ∀g,j7 g x0 H Q):GoL env Try.f20 0 [.code mM] [(0,x0)] H Q:=⟨fun g=>bg (by have h:=h g;rw [vF] at h;exact h)⟩
noncomputable def dP:Code:=(Try.f36.body).getD .skip
def jN:Nat→Option (List Nat):=fun i=>none
def jY:Nat→Bool:=fun i=>false
def bm (g:Nat→AV) (x0:AV) (H:Heap) (Q:AV→Heap→Prop):Prop :=
 doW (nRes H (⟨0,1,Heap.gen H 0 1,0⟩:Ref) (qBox env.P (⟨0,1,Heap.gen H 0 1,0⟩:Ref) 87 (some x0))) fun v1 H1 =>
 doQ (ab env.P 87 (some v1) 0) fun v2 =>
 doQ (ab env.P 48 (some v2) 0) fun v3 =>
 doQ (an env.P (Heap.get H1) 5 (some v3)) fun v4 =>
 doQ (bu env.P 48 (some [(0,v4)])) fun v5 =>
 doW (nRes H1 (⟨0,4,Heap.gen H1 0 4,0⟩:Ref) (bO env.P (⟨0,4,Heap.gen H1 0 4,0⟩:Ref) 48)) fun v6 H2 =>
 doW (aw env.P H2 48 (some v6) (some v5)) fun v7 H3 =>
 doQ (ab env.P 87 (some v1) 0) fun v8 =>
 doQ (ab env.P 48 (some v8) 0) fun v9 =>
 doQ (an env.P (Heap.get H3) 5 (some v9)) fun v10 =>
 doQ (qBin env.P .eql 5 (.tmp 12) (.const (.int .u8 1)) (some v10) (some (a8 1))) fun v11 =>
 br (some v11) (
 doQ (ab env.P 87 (some v1) 0) fun v12 =>
 doQ (ab env.P 48 (some v12) 2) fun v13 =>
 doQ (ab env.P 42 (some v13) 1) fun v14 =>
 doQ (an env.P (Heap.get H3) 35 (some v14)) fun v15 =>
 doQ (ab env.P 87 (some v1) 0) fun v16 =>
 doQ (ab env.P 48 (some v16) 1) fun v17 =>
 doQ (an env.P (Heap.get H3) 3 (some v17)) fun v18 =>
 doQ (ab env.P 48 (some v6) 2) fun v19 =>
 doQ (ab env.P 42 (some v19) 1) fun v20 =>
 doW (aw env.P H3 35 (some v20) (some v15)) fun v21 H4 =>
 doQ (ab env.P 48 (some v6) 1) fun v22 =>
 doW (aw env.P H4 3 (some v22) (some v18)) fun v23 H5 =>
  oJ [(v17,v20)] [v20,v22] [] H5 ∧
 (doQ (ab env.P 87 (some v1) 0) fun v24 =>
 doQ (ab env.P 48 (some v24) 2) fun v25 =>
 doQ (ab env.P 42 (some v25) 1) fun v26 =>
 doQ (an env.P (Heap.get H5) 35 (some v26)) fun v27 =>
 doW (ak env true (limf env) (limt env 0) H5 (⟨0,30,Heap.gen H5 0 30,0⟩:Ref) (some (.fn (.func 53) [] [])) [v27]) fun v28 H6 =>
 doQ (ao (some v28) 0) fun v29 =>
 doQ (ao (some v28) 1) fun v30 =>
 doQ (ab env.P 87 (some v1) 0) fun v31 =>
 doQ (ab env.P 48 (some v31) 1) fun v32 =>
 doQ (an env.P (Heap.get H6) 3 (some v32)) fun v33 =>
 doQ (qBin env.P .geq 3 (.tmp 35) (.const (.int .i64 0)) (some v33) (some (.v (.int .i64 0)))) fun v34 =>
 gQ v34 true (ab env.P 87 (some v1) 0) fun v35 =>
 gQ v34 true (ab env.P 48 (some v35) 1) fun v36 =>
 gQ v34 true (an env.P (Heap.get H6) 3 (some v36)) fun v37 =>
 gQ v34 true (qBin env.P .leq 3 (.tmp 40) (.const (.int .i64 255)) (some v37) (some (.v (.int .i64 255)))) fun v38 =>
 doQ (aY (some v34) (some v38) (some (.v (.bool false)))) fun v39 =>
 doQ (ab env.P 87 (some v1) 0) fun v40 =>
 doQ (ab env.P 48 (some v40) 1) fun v41 =>
 doQ (an env.P (Heap.get H6) 3 (some v41)) fun v42 =>
 doQ (aJ env.P (Heap.get H6) (⟨0,47,Heap.gen H6 0 47,0⟩:Ref) 3 5 (some v42)) fun v43 =>
 doW (fX env.P false true H6 (⟨0,48,Heap.gen H6 0 48,0⟩:Ref) 68 1 (some [(0,v43)])) fun v44 H7 =>
 doW (bQ env.P true H7 (⟨0,49,Heap.gen H7 0 49,0⟩:Ref) (some 68) (some 68) v29 v44) fun v45 H8 =>
 doQ (ab env.P 87 (some v1) 0) fun v46 =>
 doQ (ab env.P 48 (some v46) 0) fun v47 =>
 doQ (an env.P (Heap.get H8) 5 (some v47)) fun v48 =>
 doW (fX env.P false true H8 (⟨0,111,Heap.gen H8 0 111,0⟩:Ref) 68 1 (some [(0,v48)])) fun v49 H9 =>
 doW (bQ env.P true H9 (⟨0,113,Heap.gen H9 0 113,0⟩:Ref) (some 68) (some 68) v49 v45) fun v50 H10 =>
 gQ v39 true (qVal (some v30)) fun v51 =>
 gQ v39 true (qBin env.P .eql 25 (.tmp 116) (.const (.int .i64 0)) (some v51) (some (.v (.int .i64 0)))) fun v52 =>
 doQ (aY (some v39) (some v52) (some (.v (.bool false)))) fun v53 =>
 gQ v53 true (ab env.P 87 (some v1) 0) fun v54 =>
 gQ v53 true (an env.P (Heap.get H10) 48 (some v54)) fun v55 =>
 gQ v53 true (an env.P (Heap.get H10) 48 (some v6)) fun v56 =>
 gW v53 true H10 (ak env true (limf env) (limt env 0) H10 (⟨0,123,Heap.gen H10 0 123,0⟩:Ref) (some (.fn (.func 57) [] [])) [v55,v56]) fun v57 H11 =>
 doQ (aY (some v53) (some v57) (some (.v (.bool false)))) fun v58 =>
 Q (.tup [v50,v58]) H11)) (
 doQ (qBin env.P .eql 5 (.tmp 12) (.const (.int .u8 2)) (some v10) (some (a8 2))) fun v12 =>
 br (some v12) (
 doQ (ab env.P 87 (some v1) 0) fun v13 =>
 doQ (ab env.P 48 (some v13) 2) fun v14 =>
 doQ (an env.P (Heap.get H3) 42 (some v14)) fun v15 =>
 doQ (ab env.P 87 (some v1) 0) fun v16 =>
 doQ (ab env.P 48 (some v16) 3) fun v17 =>
 doQ (an env.P (Heap.get H3) 25 (some v17)) fun v18 =>
 doQ (ab env.P 48 (some v6) 2) fun v19 =>
 doW (aw env.P H3 42 (some v19) (some v15)) fun v20 H4 =>
 doQ (ab env.P 48 (some v6) 3) fun v21 =>
 doW (aw env.P H4 25 (some v21) (some v18)) fun v22 H5 =>
  oJ [(v17,v19)] [v19,v21] [] H5 ∧
 (doQ (ab env.P 87 (some v1) 0) fun v23 =>
 doQ (ab env.P 48 (some v23) 2) fun v24 =>
 doQ (an env.P (Heap.get H5) 42 (some v24)) fun v25 =>
 doW (ak env true (limf env) (limt env 0) H5 (⟨0,64,Heap.gen H5 0 64,0⟩:Ref) (some (.fn (.func 54) [] [])) [v25]) fun v26 H6 =>
 doQ (ao (some v26) 0) fun v27 =>
 doQ (ao (some v26) 1) fun v28 =>
 doQ (ab env.P 87 (some v1) 0) fun v29 =>
 doQ (ab env.P 48 (some v29) 2) fun v30 =>
 doQ (an env.P (Heap.get H6) 42 (some v30)) fun v31 =>
 doW (ak env true (limf env) (limt env 0) H6 (⟨0,70,Heap.gen H6 0 70,0⟩:Ref) (some (.fn (.func 55) [] [])) [v31]) fun v32 H7 =>
 gQ v32 true (ab env.P 87 (some v1) 0) fun v33 =>
 gQ v32 true (ab env.P 48 (some v33) 3) fun v34 =>
 gQ v32 true (an env.P (Heap.get H7) 25 (some v34)) fun v35 =>
 gQ v32 true (qBin env.P .geq 25 (.tmp 74) (.const (.int .i64 0)) (some v35) (some (.v (.int .i64 0)))) fun v36 =>
 doQ (aY (some v32) (some v36) (some (.v (.bool false)))) fun v37 =>
 gQ v37 true (ab env.P 87 (some v1) 0) fun v38 =>
 gQ v37 true (ab env.P 48 (some v38) 3) fun v39 =>
 gQ v37 true (an env.P (Heap.get H7) 25 (some v39)) fun v40 =>
 gQ v37 true (qBin env.P .lss 25 (.tmp 80) (.const (.int .i64 65536)) (some v40) (some (.v (.int .i64 65536)))) fun v41 =>
 doQ (aY (some v37) (some v41) (some (.v (.bool false)))) fun v42 =>
 doQ (ab env.P 87 (some v1) 0) fun v43 =>
 doQ (ab env.P 48 (some v43) 3) fun v44 =>
 doQ (an env.P (Heap.get H7) 25 (some v44)) fun v45 =>
 doQ (qBin env.P .shr 25 (.tmp 85) (.const (.int .u64 8)) (some v45) (some (.v (.int .u64 8)))) fun v46 =>
 doQ (aJ env.P (Heap.get H7) (⟨0,87,Heap.gen H7 0 87,0⟩:Ref) 25 5 (some v46)) fun v47 =>
 doQ (ab env.P 87 (some v1) 0) fun v48 =>
 doQ (ab env.P 48 (some v48) 3) fun v49 =>
 doQ (an env.P (Heap.get H7) 25 (some v49)) fun v50 =>
 doQ (aJ env.P (Heap.get H7) (⟨0,91,Heap.gen H7 0 91,0⟩:Ref) 25 5 (some v50)) fun v51 =>
 doW (fX env.P false true H7 (⟨0,92,Heap.gen H7 0 92,0⟩:Ref) 68 2 (some [(0,v47),(1,v51)])) fun v52 H8 =>
 doW (bQ env.P true H8 (⟨0,94,Heap.gen H8 0 94,0⟩:Ref) (some 68) (some 68) v52 v27) fun v53 H9 =>
 doQ (ab env.P 87 (some v1) 0) fun v54 =>
 doQ (ab env.P 48 (some v54) 0) fun v55 =>
 doQ (an env.P (Heap.get H9) 5 (some v55)) fun v56 =>
 doW (fX env.P false true H9 (⟨0,111,Heap.gen H9 0 111,0⟩:Ref) 68 1 (some [(0,v56)])) fun v57 H10 =>
 doW (bQ env.P true H10 (⟨0,113,Heap.gen H10 0 113,0⟩:Ref) (some 68) (some 68) v57 v53) fun v58 H11 =>
 gQ v42 true (qVal (some v28)) fun v59 =>
 gQ v42 true (qBin env.P .eql 25 (.tmp 116) (.const (.int .i64 0)) (some v59) (some (.v (.int .i64 0)))) fun v60 =>
 doQ (aY (some v42) (some v60) (some (.v (.bool false)))) fun v61 =>
 gQ v61 true (ab env.P 87 (some v1) 0) fun v62 =>
 gQ v61 true (an env.P (Heap.get H11) 48 (some v62)) fun v63 =>
 gQ v61 true (an env.P (Heap.get H11) 48 (some v6)) fun v64 =>
 gW v61 true H11 (ak env true (limf env) (limt env 0) H11 (⟨0,123,Heap.gen H11 0 123,0⟩:Ref) (some (.fn (.func 57) [] [])) [v63,v64]) fun v65 H12 =>
 doQ (aY (some v61) (some v65) (some (.v (.bool false)))) fun v66 =>
 Q (.tup [v58,v66]) H12)) (
 doQ (qBin env.P .eql 5 (.tmp 12) (.const (.int .u8 3)) (some v10) (some (a8 3))) fun v13 =>
 br (some v13) (
 doQ (ab env.P 87 (some v1) 0) fun v14 =>
 doQ (ab env.P 48 (some v14) 4) fun v15 =>
 doQ (an env.P (Heap.get H3) 46 (some v15)) fun v16 =>
 doQ (ab env.P 48 (some v6) 4) fun v17 =>
 doW (aw env.P H3 46 (some v17) (some v16)) fun v18 H4 =>
 doQ (ab env.P 87 (some v1) 0) fun v19 =>
 doQ (ab env.P 48 (some v19) 4) fun v20 =>
 doQ (an env.P (Heap.get H4) 46 (some v20)) fun v21 =>
 doW (ak env true (limf env) (limt env 0) H4 (⟨0,105,Heap.gen H4 0 105,0⟩:Ref) (some (.fn (.func 56) [] [])) [v21]) fun v22 H5 =>
 doQ (ao (some v22) 0) fun v23 =>
 doQ (ao (some v22) 1) fun v24 =>
 doQ (ab env.P 87 (some v1) 0) fun v25 =>
 doQ (ab env.P 48 (some v25) 0) fun v26 =>
 doQ (an env.P (Heap.get H5) 5 (some v26)) fun v27 =>
 doW (fX env.P false true H5 (⟨0,111,Heap.gen H5 0 111,0⟩:Ref) 68 1 (some [(0,v27)])) fun v28 H6 =>
 doW (bQ env.P true H6 (⟨0,113,Heap.gen H6 0 113,0⟩:Ref) (some 68) (some 68) v28 v23) fun v29 H7 =>
 gQ (.v (.bool true)) true (qVal (some v24)) fun v30 =>
 gQ (.v (.bool true)) true (qBin env.P .eql 25 (.tmp 116) (.const (.int .i64 0)) (some v30) (some (.v (.int .i64 0)))) fun v31 =>
 doQ (aY (some (.v (.bool true))) (some v31) (some (.v (.bool false)))) fun v32 =>
 gQ v32 true (ab env.P 87 (some v1) 0) fun v33 =>
 gQ v32 true (an env.P (Heap.get H7) 48 (some v33)) fun v34 =>
 gQ v32 true (an env.P (Heap.get H7) 48 (some v6)) fun v35 =>
 gW v32 true H7 (ak env true (limf env) (limt env 0) H7 (⟨0,123,Heap.gen H7 0 123,0⟩:Ref) (some (.fn (.func 57) [] [])) [v34,v35]) fun v36 H8 =>
 doQ (aY (some v32) (some v36) (some (.v (.bool false)))) fun v37 =>
 Q (.tup [v29,v37]) H8) (
 doQ (ab env.P 87 (some v1) 0) fun v14 =>
 doQ (ab env.P 48 (some v14) 0) fun v15 =>
 doQ (an env.P (Heap.get H3) 5 (some v15)) fun v16 =>
 doW (fX env.P false true H3 (⟨0,111,Heap.gen H3 0 111,0⟩:Ref) 68 1 (some [(0,v16)])) fun v17 H4 =>
 doW (bQ env.P true H4 (⟨0,113,Heap.gen H4 0 113,0⟩:Ref) (some 68) (some 68) v17 (.v (.slice none 0 0))) fun v18 H5 =>
 gQ (.v (.bool false)) true (qVal (some (.v (.int .i64 0)))) fun v19 =>
 gQ (.v (.bool false)) true (qBin env.P .eql 25 (.tmp 116) (.const (.int .i64 0)) (some v19) (some (.v (.int .i64 0)))) fun v20 =>
 doQ (aY (some (.v (.bool false))) (some v20) (some (.v (.bool false)))) fun v21 =>
 gQ v21 true (ab env.P 87 (some v1) 0) fun v22 =>
 gQ v21 true (an env.P (Heap.get H5) 48 (some v22)) fun v23 =>
 gQ v21 true (an env.P (Heap.get H5) 48 (some v6)) fun v24 =>
 gW v21 true H5 (ak env true (limf env) (limt env 0) H5 (⟨0,123,Heap.gen H5 0 123,0⟩:Ref) (some (.fn (.func 57) [] [])) [v23,v24]) fun v25 H6 =>
 doQ (aY (some v21) (some v25) (some (.v (.bool false)))) fun v26 =>
 Q (.tup [v18,v26]) H6)))
theorem jE:bm=fun g x0 H Q=>wp env Try.f36 none 0 jN jY Q 500 [.code dP] (ofL g [(0,x0)]) H:=by kernel_rfl
theorem jH (x0:AV) (H:Heap) (Q:AV→Heap→Prop) (h : ∀g,bm g x0 H Q):GoL env Try.f36 0 [.code dP] [(0,x0)] H Q:=⟨fun g=>bg (by have h:=h g;rw [jE] at h;exact h)⟩
noncomputable def qA:Code:=(Try.f56.body).getD .skip
def BP:Nat→Option (List Nat):=fun i=>none
def Cl:Nat→Bool:=fun i=>false
def np (g:Nat→AV) (x0:AV) (H:Heap) (Q:AV→Heap→Prop):Prop :=
 doW (nRes H (⟨0,1,Heap.gen H 0 1,0⟩:Ref) (qBox env.P (⟨0,1,Heap.gen H 0 1,0⟩:Ref) 46 (some x0))) fun v1 H1 =>
 doQ (an env.P (Heap.get H1) 46 (some v1)) fun v2 =>
 doW (ak env true (limf env) (limt env 0) H1 (⟨0,9,Heap.gen H1 0 9,0⟩:Ref) (some (.fn (.func 77) [] [])) [v2]) fun v3 H2 =>
 doQ (qBin env.P .neq 25 (.tmp 10) (.const (.int .i64 0)) (some v3) (some (.v (.int .i64 0)))) fun v4 =>
 br (some v4) (
 Q (.tup [(.v (.slice none 0 0)),v3]) H2) (
 doQ (ab env.P 46 (some v1) 1) fun v5 =>
 doQ (ab env.P 44 (some v5) 1) fun v6 =>
 doQ (an env.P (Heap.get H2) 4 (some v6)) fun v7 =>
 br (some v7) (
 doQ (ab env.P 46 (some v1) 1) fun v8 =>
 doQ (ab env.P 44 (some v8) 0) fun v9 =>
 doQ (an env.P (Heap.get H2) 33 (some v9)) fun v10 =>
 doQ (bu env.P 35 (some [(0,v10)])) fun v11 =>
 doW (ak env true (limf env) (limt env 0) H2 (⟨0,21,Heap.gen H2 0 21,0⟩:Ref) (some (.fn (.func 53) [] [])) [v11]) fun v12 H3 =>
 doQ (ao (some v12) 0) fun v13 =>
 doQ (ao (some v12) 1) fun v14 =>
 doQ (ab env.P 46 (some v1) 0) fun v15 =>
 doQ (an env.P (Heap.get H3) 3 (some v15)) fun v16 =>
 doQ (aJ env.P (Heap.get H3) (⟨0,26,Heap.gen H3 0 26,0⟩:Ref) 3 5 (some v16)) fun v17 =>
 doW (fX env.P true false H3 (⟨0,28,Heap.gen H3 0 28,0⟩:Ref) 68 2 (some [(0,v17),(1,(a8 1))])) fun v18 H4 =>
 doQ (ay env.P false (Heap.get H4) (⟨0,31,Heap.gen H4 0 31,0⟩:Ref) .len #[68] [v13]) fun v19 =>
 doQ (qBin env.P .sub 3 (.tmp 31) (.const (.int .i64 1)) (some v19) (some (.v (.int .i64 1)))) fun v20 =>
 doQ (bK env.P (Heap.get H4) 68 (some v13) (some none) (oi v20) (some none)) fun v21 =>
 doW (bQ env.P true H4 (⟨0,34,Heap.gen H4 0 34,0⟩:Ref) (some 68) (some 68) v18 v21) fun v22 H5 =>
 Q (.tup [v22,v14]) H5) (
 doQ (ab env.P 46 (some v1) 1) fun v8 =>
 doQ (ab env.P 44 (some v8) 0) fun v9 =>
 doQ (an env.P (Heap.get H2) 33 (some v9)) fun v10 =>
 doQ (bu env.P 35 (some [(0,v10)])) fun v11 =>
 doW (ak env true (limf env) (limt env 0) H2 (⟨0,21,Heap.gen H2 0 21,0⟩:Ref) (some (.fn (.func 53) [] [])) [v11]) fun v12 H3 =>
 doQ (ao (some v12) 0) fun v13 =>
 doQ (ao (some v12) 1) fun v14 =>
 doQ (ab env.P 46 (some v1) 0) fun v15 =>
 doQ (an env.P (Heap.get H3) 3 (some v15)) fun v16 =>
 doQ (aJ env.P (Heap.get H3) (⟨0,26,Heap.gen H3 0 26,0⟩:Ref) 3 5 (some v16)) fun v17 =>
 doW (fX env.P true false H3 (⟨0,28,Heap.gen H3 0 28,0⟩:Ref) 68 2 (some [(0,v17),(1,(a8 0))])) fun v18 H4 =>
 doQ (ay env.P false (Heap.get H4) (⟨0,31,Heap.gen H4 0 31,0⟩:Ref) .len #[68] [v13]) fun v19 =>
 doQ (qBin env.P .sub 3 (.tmp 31) (.const (.int .i64 1)) (some v19) (some (.v (.int .i64 1)))) fun v20 =>
 doQ (bK env.P (Heap.get H4) 68 (some v13) (some none) (oi v20) (some none)) fun v21 =>
 doW (bQ env.P true H4 (⟨0,34,Heap.gen H4 0 34,0⟩:Ref) (some 68) (some 68) v18 v21) fun v22 H5 =>
 Q (.tup [v22,v14]) H5))
theorem A8:np=fun g x0 H Q=>wp env Try.f56 none 0 BP Cl Q 500 [.code qA] (ofL g [(0,x0)]) H:=by kernel_rfl
theorem Bj (x0:AV) (H:Heap) (Q:AV→Heap→Prop) (h : ∀g,np g x0 H Q):GoL env Try.f56 0 [.code qA] [(0,x0)] H Q:=⟨fun g=>bg (by have h:=h g;rw [A8] at h;exact h)⟩
noncomputable def nN:Code:=(Try.f77.body).getD .skip
def xQ:Nat→Option (List Nat):=fun i=>none
def yc:Nat→Bool:=fun i=>false
def kO (g:Nat→AV) (x0:AV) (H:Heap) (Q:AV→Heap→Prop):Prop :=
 doW (nRes H (⟨0,1,Heap.gen H 0 1,0⟩:Ref) (qBox env.P (⟨0,1,Heap.gen H 0 1,0⟩:Ref) 46 (some x0))) fun v1 H1 =>
 doQ (ab env.P 46 (some v1) 1) fun v2 =>
 doQ (ab env.P 44 (some v2) 1) fun v3 =>
 doQ (an env.P (Heap.get H1) 4 (some v3)) fun v4 =>
 gQ v4 false (ab env.P 46 (some v1) 1) fun v5 =>
 gQ v4 false (ab env.P 44 (some v5) 0) fun v6 =>
 gQ v4 false (an env.P (Heap.get H1) 33 (some v6)) fun v7 =>
 gW v4 false H1 (ak env false (limf env) (limt env 0) H1 (⟨0,11,Heap.gen H1 0 11,0⟩:Ref) (some (.fn (.func 91) [] [])) []) fun v8 H2 =>
 gQ v4 false (qBin env.P .eql 33 (.tmp 10) (.tmp 11) (some v7) (some v8)) fun v9 =>
 doQ (aY (some v4) (some (.v (.bool true))) (some v9)) fun v10 =>
 doQ (ab env.P 46 (some v1) 0) fun v11 =>
 doQ (an env.P (Heap.get H2) 3 (some v11)) fun v12 =>
 doQ (qBin env.P .lss 3 (.tmp 15) (.const (.int .i64 0)) (some v12) (some (.v (.int .i64 0)))) fun v13 =>
 gQ v13 false (ab env.P 46 (some v1) 0) fun v14 =>
 gQ v13 false (an env.P (Heap.get H2) 3 (some v14)) fun v15 =>
 gQ v13 false (qBin env.P .geq 3 (.tmp 19) (.const (.int .i64 8)) (some v15) (some (.v (.int .i64 8)))) fun v16 =>
 doQ (aY (some v13) (some (.v (.bool true))) (some v16)) fun v17 =>
 gQ v17 false (ab env.P 46 (some v1) 1) fun v18 =>
 gQ v17 false (ab env.P 44 (some v18) 0) fun v19 =>
 gQ v17 false (an env.P (Heap.get H2) 33 (some v19)) fun v20 =>
 gW v17 false H2 (ak env true (limf env) (limt env 0) H2 (⟨0,26,Heap.gen H2 0 26,0⟩:Ref) (some (.fn (.func 85) [] [])) [v20]) fun v21 H3 =>
 gQ v17 false (qBin env.P .neq 25 (.tmp 26) (.const (.int .i64 0)) (some v21) (some (.v (.int .i64 0)))) fun v22 =>
 doQ (aY (some v17) (some (.v (.bool true))) (some v22)) fun v23 =>
 gQ v23 false (qVal (some v10)) fun v24 =>
 gQ v23 false (qUn env.P .not (some v24)) fun v25 =>
 doQ (aY (some v23) (some (.v (.bool true))) (some v25)) fun v26 =>
 br (some v26) (
 Q (.v (.int .i64 8)) H3) (
 Q (.v (.int .i64 0)) H3)
theorem xn:kO=fun g x0 H Q=>wp env Try.f77 none 0 xQ yc Q 500 [.code nN] (ofL g [(0,x0)]) H:=by kernel_rfl
theorem xD (x0:AV) (H:Heap) (Q:AV→Heap→Prop) (h : ∀g,kO g x0 H Q):GoL env Try.f77 0 [.code nN] [(0,x0)] H Q:=⟨fun g=>bg (by have h:=h g;rw [xn] at h;exact h)⟩
end Go.Proofs.Ytmjkpdknicjjgaa
