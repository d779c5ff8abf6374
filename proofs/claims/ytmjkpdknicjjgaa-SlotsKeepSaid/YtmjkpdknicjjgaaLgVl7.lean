/-
  What is to be shown of each function, computed from its code. No statement of a seat is proved here.
-/
import Derived.Test.YtmjkpdknicjjgaaLgTy
set_option linter.unusedVariables false
set_option maxRecDepth 1000000
namespace Go.Proofs.Ytmjkpdknicjjgaa
open Go.Ab
noncomputable def dF:Code:=(Try.f7.body).getD .skip
noncomputable def bM:List Item:=(bP 16 400 [.code dF]).getD []
def ig:Nat→Option (List Nat):=fun i=>cond (Nat.beq i 16) (some [19,18,1,9,3,0,16,2]) (none)
def il:Nat→Bool:=fun i=>false
def aZ (g:Nat→AV) (x0 x1 x2 x3:AV) (H:Heap) (Q:AV→Heap→Prop):Prop :=
 doW (ak env true (limf env) (limt env 0) H (⟨0,26,Heap.gen H 0 26,0⟩:Ref) (some (.fn (.func 24) [] [])) []) fun v1 H1 =>
 doW (ak env true (limf env) (limt env 0) H1 (⟨0,28,Heap.gen H1 0 28,0⟩:Ref) (some (.fn (.func 18) [] [])) [x0,(.v (.int .i64 20))]) fun v2 H2 =>
 gQ v2 false (qVal (some x1)) fun v3 =>
 gW v2 false H2 (ak env true (limf env) (limt env 0) H2 (⟨0,31,Heap.gen H2 0 31,0⟩:Ref) (some (.fn (.func 18) [] [])) [v3,(.v (.int .i64 20))]) fun v4 H3 =>
 doQ (aY (some v2) (some (.v (.bool true))) (some v4)) fun v5 =>
 gQ v5 false (qVal (some x3)) fun v6 =>
 gW v5 false H3 (ak env true (limf env) (limt env 0) H3 (⟨0,35,Heap.gen H3 0 35,0⟩:Ref) (some (.fn (.func 18) [] [])) [v6,(.v (.int .i64 20))]) fun v7 H4 =>
 doQ (aY (some v5) (some (.v (.bool true))) (some v7)) fun v8 =>
 gQ v8 false (qVal (some x2)) fun v9 =>
 gQ v8 false (qBin env.P .lss 3 (.tmp 38) (.const (.int .i64 0)) (some v9) (some (.v (.int .i64 0)))) fun v10 =>
 doQ (aY (some v8) (some (.v (.bool true))) (some v10)) fun v11 =>
 gQ v11 false (qVal (some x2)) fun v12 =>
 gQ v11 false (qBin env.P .gtr 3 (.tmp 42) (.const (.int .i64 1000)) (some v12) (some (.v (.int .i64 1000)))) fun v13 =>
 doQ (aY (some v11) (some (.v (.bool true))) (some v13)) fun v14 =>
 gQ v14 false (qVal (some v1)) fun v15 =>
 gQ v14 false (qUn env.P .not (some v15)) fun v16 =>
 doQ (aY (some v14) (some (.v (.bool true))) (some v16)) fun v17 =>
 br (some v17) (
 Q v1 H4) (
 doW (ak env true (limf env) (limt env 0) H4 (⟨0,51,Heap.gen H4 0 51,0⟩:Ref) (some (.fn (.func 10) [] [])) []) fun v18 H5 =>
 doW (ak env true (limf env) (limt env 0) H5 (⟨0,52,Heap.gen H5 0 52,0⟩:Ref) (some (.fn (.func 9) [] [])) [v18,(.v (.int .i64 (-1)))]) fun v19 H6 =>
 doQ (ao (some v19) 0) fun v20 =>
 doQ (ao (some v19) 1) fun v21 =>
 doW (nRes H6 (⟨0,10,Heap.gen H6 0 10,0⟩:Ref) (bO env.P (⟨0,10,Heap.gen H6 0 10,0⟩:Ref) 24)) fun v22 H7 =>
 doW (aw env.P H7 24 (some v22) (some v20)) fun v23 H8 =>
 doQ (an env.P (Heap.get H8) 24 (some v22)) fun v24 =>
 doW (ak env true (limf env) (limt env 0) H8 (⟨0,58,Heap.gen H8 0 58,0⟩:Ref) (some (.fn (.func 22) [] [])) [v24,x0]) fun v25 H9 =>
 doQ (ao (some v25) 0) fun v26 =>
 doQ (ao (some v25) 1) fun v27 =>
 doW (nRes H9 (⟨0,12,Heap.gen H9 0 12,0⟩:Ref) (bO env.P (⟨0,12,Heap.gen H9 0 12,0⟩:Ref) 24)) fun v28 H10 =>
 doW (aw env.P H10 24 (some v28) (some v26)) fun v29 H11 =>
 doQ (qBin env.P .neq 25 (.tmp 61) (.const (.int .i64 0)) (some v21) (some (.v (.int .i64 0)))) fun v30 =>
 gQ v30 false (qVal (some v27)) fun v31 =>
 gQ v30 false (qBin env.P .neq 25 (.tmp 64) (.const (.int .i64 0)) (some v31) (some (.v (.int .i64 0)))) fun v32 =>
 doQ (aY (some v30) (some (.v (.bool true))) (some v32)) fun v33 =>
 br (some v33) (
 gQ v1 true (qVal (some v21)) fun v34 =>
 gQ v1 true (qBin env.P .eql 25 (.tmp 69) (.const (.int .i64 0)) (some v34) (some (.v (.int .i64 0)))) fun v35 =>
 doQ (aY (some v1) (some v35) (some (.v (.bool false)))) fun v36 =>
 gQ v36 true (ab env.P 24 (some v28) 0) fun v37 =>
 gQ v36 true (an env.P (Heap.get H11) 22 (some v37)) fun v38 =>
 gQ v36 true (ay env.P false (Heap.get H11) (⟨0,75,Heap.gen H11 0 75,0⟩:Ref) .len #[22] [v38]) fun v39 =>
 gQ v36 true (qBin env.P .eql 3 (.tmp 75) (.const (.int .i64 0)) (some v39) (some (.v (.int .i64 0)))) fun v40 =>
 doQ (aY (some v36) (some v40) (some (.v (.bool false)))) fun v41 =>
 Q v41 H11) (
 doQ (an env.P (Heap.get H11) 24 (some v28)) fun v34 =>
 doW (ak env true (limf env) (limt env 0) H11 (⟨0,80,Heap.gen H11 0 80,0⟩:Ref) (some (.fn (.func 25) [] [])) [v34,(.v (.int .i64 1)),x0]) fun v35 H12 =>
 doQ (qUn env.P .not (some v35)) fun v36 =>
 br (some v36) (
 Q (.v (.bool false)) H12) (
 doQ (an env.P (Heap.get H12) 24 (some v28)) fun v37 =>
 doW (ak env true (limf env) (limt env 0) H12 (⟨0,85,Heap.gen H12 0 85,0⟩:Ref) (some (.fn (.func 9) [] [])) [v37,x2]) fun v38 H13 =>
 doQ (ao (some v38) 0) fun v39 =>
 doQ (ao (some v38) 1) fun v40 =>
 doW (nRes H13 (⟨0,14,Heap.gen H13 0 14,0⟩:Ref) (bO env.P (⟨0,14,Heap.gen H13 0 14,0⟩:Ref) 24)) fun v41 H14 =>
 doW (aw env.P H14 24 (some v41) (some v39)) fun v42 H15 =>
 doQ (an env.P (Heap.get H15) 24 (some v41)) fun v43 =>
 doW (ak env true (limf env) (limt env 0) H15 (⟨0,91,Heap.gen H15 0 91,0⟩:Ref) (some (.fn (.func 22) [] [])) [v43,x1]) fun v44 H16 =>
 doQ (ao (some v44) 0) fun v45 =>
 doQ (ao (some v44) 1) fun v46 =>
 doW (nRes H16 (⟨0,16,Heap.gen H16 0 16,0⟩:Ref) (bO env.P (⟨0,16,Heap.gen H16 0 16,0⟩:Ref) 24)) fun v47 H17 =>
 doW (aw env.P H17 24 (some v47) (some v45)) fun v48 H18 =>
 doQ (qBin env.P .neq 25 (.tmp 94) (.const (.int .i64 0)) (some v40) (some (.v (.int .i64 0)))) fun v49 =>
 gQ v49 false (qVal (some v46)) fun v50 =>
 gQ v49 false (qBin env.P .neq 25 (.tmp 97) (.const (.int .i64 0)) (some v50) (some (.v (.int .i64 0)))) fun v51 =>
 doQ (aY (some v49) (some (.v (.bool true))) (some v51)) fun v52 =>
 br (some v52) (
 gQ v1 true (qVal (some v40)) fun v53 =>
 gQ v1 true (qBin env.P .eql 25 (.tmp 102) (.const (.int .i64 0)) (some v53) (some (.v (.int .i64 0)))) fun v54 =>
 doQ (aY (some v1) (some v54) (some (.v (.bool false)))) fun v55 =>
 gQ v55 true (ab env.P 24 (some v47) 0) fun v56 =>
 gQ v55 true (an env.P (Heap.get H18) 22 (some v56)) fun v57 =>
 gQ v55 true (ay env.P false (Heap.get H18) (⟨0,108,Heap.gen H18 0 108,0⟩:Ref) .len #[22] [v57]) fun v58 =>
 gQ v55 true (qBin env.P .eql 3 (.tmp 108) (.const (.int .i64 0)) (some v58) (some (.v (.int .i64 0)))) fun v59 =>
 doQ (aY (some v55) (some v59) (some (.v (.bool false)))) fun v60 =>
 Q v60 H18) (
  GoL env Try.f7 0 bM [(19,(.v (.int .i64 0))),(18,(.v (.int .i64 1))),(1,x1),(9,v1),(3,x3),(0,x0),(16,v47),(2,x2)] H18 Q))))
theorem lV:aZ=fun g x0 x1 x2 x3 H Q=>wp env Try.f7 none 0 ig il Q 500 [.code dF] (ofL g [(0,x0),(1,x1),(2,x2),(3,x3)]) H:=by kernel_rfl
theorem lW (x0 x1 x2 x3:AV) (H:Heap) (Q:AV→Heap→Prop) (h : ∀g,aZ g x0 x1 x2 x3 H Q):GoL env Try.f7 0 [.code dF] [(0,x0),(1,x1),(2,x2),(3,x3)] H Q:=⟨fun g=>bg (by have h:=h g;rw [lV] at h;exact h)⟩
def bw (g:Nat→AV) (x19 x18 x1 x9 x3 x0 x16 x2:AV) (H:Heap) (Q:AV→Heap→Prop):Prop :=
 doQ (ay env.P false (Heap.get H) (⟨0,113,Heap.gen H 0 113,0⟩:Ref) .len #[50] [x1]) fun v1 =>
 doQ (qBin env.P .lss 3 (.tmp 111) (.tmp 113) (some x19) (some v1)) fun v2 =>
 br (some v2) (
 doQ (au env.P (Heap.get H) 50 (some x1) (some x19)) fun v3 =>
 doQ (an env.P (Heap.get H) 48 (some v3)) fun v4 =>
 doW (ak env true (limf env) (limt env 0) H (⟨0,122,Heap.gen H 0 122,0⟩:Ref) (some (.fn (.func 20) [] [])) [v4]) fun v5 H1 =>
 doQ (ao (some v5) 0) fun v6 =>
 doQ (ao (some v5) 1) fun v7 =>
 doQ (qBin env.P .neq 25 (.tmp 125) (.const (.int .i64 0)) (some v7) (some (.v (.int .i64 0)))) fun v8 =>
 br (some v8) (
 Q (.v (.bool false)) H1) (
 doQ (qBin env.P .add 3 (.tmp 127) (.tmp 128) (some x18) (some v6)) fun v9 =>
 doQ (qBin env.P .add 3 (.tmp 115) (.const (.int .i64 1)) (some x19) (some (.v (.int .i64 1)))) fun v10 =>
  GoL env Try.f7 0 bM [(19,v10),(18,v9),(1,x1),(9,x9),(3,x3),(0,x0),(16,x16),(2,x2)] H1 Q)) (
 doQ (an env.P (Heap.get H) 24 (some x16)) fun v3 =>
 doW (ak env true (limf env) (limt env 0) H (⟨0,132,Heap.gen H 0 132,0⟩:Ref) (some (.fn (.func 9) [] [])) [v3,(.v (.int .i64 (-1)))]) fun v4 H1 =>
 doQ (ao (some v4) 0) fun v5 =>
 doQ (ao (some v4) 1) fun v6 =>
 doW (nRes H1 (⟨0,22,Heap.gen H1 0 22,0⟩:Ref) (bO env.P (⟨0,22,Heap.gen H1 0 22,0⟩:Ref) 24)) fun v7 H2 =>
 doW (aw env.P H2 24 (some v7) (some v5)) fun v8 H3 =>
 doQ (an env.P (Heap.get H3) 24 (some v7)) fun v9 =>
 doW (ak env true (limf env) (limt env 0) H3 (⟨0,138,Heap.gen H3 0 138,0⟩:Ref) (some (.fn (.func 22) [] [])) [v9,x3]) fun v10 H4 =>
 doQ (ao (some v10) 0) fun v11 =>
 doQ (ao (some v10) 1) fun v12 =>
 doW (nRes H4 (⟨0,24,Heap.gen H4 0 24,0⟩:Ref) (bO env.P (⟨0,24,Heap.gen H4 0 24,0⟩:Ref) 24)) fun v13 H5 =>
 doW (aw env.P H5 24 (some v13) (some v11)) fun v14 H6 =>
 doQ (qBin env.P .neq 25 (.tmp 141) (.const (.int .i64 0)) (some v6) (some (.v (.int .i64 0)))) fun v15 =>
 gQ v15 false (qVal (some v12)) fun v16 =>
 gQ v15 false (qBin env.P .neq 25 (.tmp 144) (.const (.int .i64 0)) (some v16) (some (.v (.int .i64 0)))) fun v17 =>
 doQ (aY (some v15) (some (.v (.bool true))) (some v17)) fun v18 =>
 br (some v18) (
 gQ x9 true (qVal (some v6)) fun v19 =>
 gQ x9 true (qBin env.P .eql 25 (.tmp 149) (.const (.int .i64 0)) (some v19) (some (.v (.int .i64 0)))) fun v20 =>
 doQ (aY (some x9) (some v20) (some (.v (.bool false)))) fun v21 =>
 gQ v21 true (ab env.P 24 (some v13) 0) fun v22 =>
 gQ v21 true (an env.P (Heap.get H6) 22 (some v22)) fun v23 =>
 gQ v21 true (ay env.P false (Heap.get H6) (⟨0,155,Heap.gen H6 0 155,0⟩:Ref) .len #[22] [v23]) fun v24 =>
 gQ v21 true (qBin env.P .eql 3 (.tmp 155) (.const (.int .i64 0)) (some v24) (some (.v (.int .i64 0)))) fun v25 =>
 doQ (aY (some v21) (some v25) (some (.v (.bool false)))) fun v26 =>
 Q v26 H6) (
 doQ (qBin env.P .lss 3 (.tmp 158) (.tmp 159) (some x2) (some x18)) fun v19 =>
 br (some v19) (
 gQ x9 true (ab env.P 24 (some x16) 3) fun v20 =>
 gQ x9 true (an env.P (Heap.get H6) 4 (some v20)) fun v21 =>
 doQ (aY (some x9) (some v21) (some (.v (.bool false)))) fun v22 =>
 gQ v22 true (an env.P (Heap.get H6) 24 (some x16)) fun v23 =>
 gQ v22 true (qVal (some x0)) fun v24 =>
 gW v22 true H6 (ak env true (limf env) (limt env 0) H6 (⟨0,169,Heap.gen H6 0 169,0⟩:Ref) (some (.fn (.func 25) [] [])) [v23,(.v (.int .i64 1)),v24]) fun v25 H7 =>
 doQ (aY (some v22) (some v25) (some (.v (.bool false)))) fun v26 =>
 gQ v26 true (an env.P (Heap.get H7) 24 (some v7)) fun v27 =>
 gQ v26 true (qVal (some x0)) fun v28 =>
 gW v26 true H7 (ak env true (limf env) (limt env 0) H7 (⟨0,174,Heap.gen H7 0 174,0⟩:Ref) (some (.fn (.func 25) [] [])) [v27,(.v (.int .i64 1)),v28]) fun v29 H8 =>
 doQ (aY (some v26) (some v29) (some (.v (.bool false)))) fun v30 =>
 gQ v30 true (an env.P (Heap.get H8) 24 (some v13)) fun v31 =>
 gQ v30 true (qVal (some x3)) fun v32 =>
 gW v30 true H8 (ak env true (limf env) (limt env 0) H8 (⟨0,179,Heap.gen H8 0 179,0⟩:Ref) (some (.fn (.func 25) [] [])) [v31,(.v (.int .i64 2)),v32]) fun v33 H9 =>
 doQ (aY (some v30) (some v33) (some (.v (.bool false)))) fun v34 =>
 Q v34 H9) (
 gQ x9 true (ab env.P 24 (some x16) 3) fun v20 =>
 gQ x9 true (an env.P (Heap.get H6) 4 (some v20)) fun v21 =>
 gQ x9 true (qUn env.P .not (some v21)) fun v22 =>
 doQ (aY (some x9) (some v22) (some (.v (.bool false)))) fun v23 =>
 gQ v23 true (an env.P (Heap.get H6) 24 (some x16)) fun v24 =>
 gQ v23 true (qVal (some x1)) fun v25 =>
 gW v23 true H6 (ak env true (limf env) (limt env 0) H6 (⟨0,190,Heap.gen H6 0 190,0⟩:Ref) (some (.fn (.func 25) [] [])) [v24,(.v (.int .i64 2)),v25]) fun v26 H7 =>
 doQ (aY (some v23) (some v26) (some (.v (.bool false)))) fun v27 =>
 gQ v27 true (an env.P (Heap.get H7) 24 (some v7)) fun v28 =>
 gQ v27 true (qVal (some x1)) fun v29 =>
 gW v27 true H7 (ak env true (limf env) (limt env 0) H7 (⟨0,195,Heap.gen H7 0 195,0⟩:Ref) (some (.fn (.func 25) [] [])) [v28,(.v (.int .i64 2)),v29]) fun v30 H8 =>
 doQ (aY (some v27) (some v30) (some (.v (.bool false)))) fun v31 =>
 gQ v31 true (an env.P (Heap.get H8) 24 (some v13)) fun v32 =>
 gQ v31 true (qVal (some x3)) fun v33 =>
 gW v31 true H8 (ak env true (limf env) (limt env 0) H8 (⟨0,200,Heap.gen H8 0 200,0⟩:Ref) (some (.fn (.func 25) [] [])) [v32,(.v (.int .i64 3)),v33]) fun v34 H9 =>
 doQ (aY (some v31) (some v34) (some (.v (.bool false)))) fun v35 =>
 Q v35 H9)))
theorem kp:bw=fun g x19 x18 x1 x9 x3 x0 x16 x2 H Q=>wp env Try.f7 none 0 ig il Q 500 (fk bM) (ofL g [(19,x19),(18,x18),(1,x1),(9,x9),(3,x3),(0,x0),(16,x16),(2,x2)]) H:=by kernel_rfl
theorem fV (x19 x18 x1 x9 x3 x0 x16 x2:AV) (H:Heap) (Q:AV→Heap→Prop) (h : ∀g,bw g x19 x18 x1 x9 x3 x0 x16 x2 H Q):GoL env Try.f7 0 bM [(19,x19),(18,x18),(1,x1),(9,x9),(3,x3),(0,x0),(16,x16),(2,x2)] H Q:=cQ fun g=>bg (by have h:=h g;rw [kp] at h;exact h)
end Go.Proofs.Ytmjkpdknicjjgaa
