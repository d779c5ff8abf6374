/-
  What is to be shown of each function, computed from its code. No statement of a seat is proved here.
-/
import Derived.Test.YtmjkpdknicjjgaaLgTy
set_option linter.unusedVariables false
set_option maxRecDepth 1000000
namespace Go.Proofs.Ytmjkpdknicjjgaa
open Go.Ab
noncomputable def ma:Code:=(Try.f22.body).getD .skip
noncomputable def gO:List Item:=(bP 14 400 [.code ma]).getD []
def sN:Nat→Option (List Nat):=fun i=>cond (Nat.beq i 14) (some [4,50,2,11,10,48,9,49]) (none)
def sX:Nat→Bool:=fun i=>false
def gG (g:Nat→AV) (x0 x1:AV) (H:Heap) (Q:AV→Heap→Prop):Prop :=
 doW (nRes H (⟨0,2,Heap.gen H 0 2,0⟩:Ref) (qBox env.P (⟨0,2,Heap.gen H 0 2,0⟩:Ref) 24 (some x0))) fun v1 H1 =>
 doW (nRes H1 (⟨0,4,Heap.gen H1 0 4,0⟩:Ref) (bO env.P (⟨0,4,Heap.gen H1 0 4,0⟩:Ref) 24)) fun v2 H2 =>
 doQ (an env.P (Heap.get H2) 24 (some v1)) fun v3 =>
 doW (ak env true (limf env) (limt env 0) H2 (⟨0,16,Heap.gen H2 0 16,0⟩:Ref) (some (.fn (.func 37) [] [])) [v3]) fun v4 H3 =>
 doQ (ao (some v4) 0) fun v5 =>
 doQ (ao (some v4) 1) fun v6 =>
 doW (nRes H3 (⟨0,6,Heap.gen H3 0 6,0⟩:Ref) (bO env.P (⟨0,6,Heap.gen H3 0 6,0⟩:Ref) 71)) fun v7 H4 =>
 doW (aw env.P H4 71 (some v7) (some v5)) fun v8 H5 =>
 doQ (qBin env.P .neq 25 (.tmp 20) (.const (.int .i64 0)) (some v6) (some (.v (.int .i64 0)))) fun v9 =>
 br (some v9) (
 doQ (bu env.P 24 (some [])) fun v10 =>
 doW (aw env.P H5 24 (some v2) (some v10)) fun v11 H6 =>
 doQ (aE env.P H6 v2 24) fun v12 =>
 Q (.tup [v12,v6]) H6) (
 doQ (ab env.P 24 (some v1) 1) fun v10 =>
 doQ (an env.P (Heap.get H5) 3 (some v10)) fun v11 =>
 doQ (qBin env.P .lss 3 (.tmp 26) (.const (.int .i64 1)) (some v11) (some (.v (.int .i64 1)))) fun v12 =>
 br (some v12) (
 doQ (bu env.P 24 (some [])) fun v13 =>
 doW (aw env.P H5 24 (some v2) (some v13)) fun v14 H6 =>
 doQ (aE env.P H6 v2 24) fun v15 =>
 Q (.tup [v15,(.v (.int .i64 2))]) H6) (
 doW (ak env true (limf env) (limt env 0) H5 (⟨0,30,Heap.gen H5 0 30,0⟩:Ref) (some (.fn (.func 38) [] [])) [x1]) fun v13 H6 =>
 doQ (qBin env.P .neq 25 (.tmp 31) (.const (.int .i64 0)) (some v13) (some (.v (.int .i64 0)))) fun v14 =>
 br (some v14) (
 doQ (bu env.P 24 (some [])) fun v15 =>
 doW (aw env.P H6 24 (some v2) (some v15)) fun v16 H7 =>
 doQ (aE env.P H7 v2 24) fun v17 =>
 Q (.tup [v17,v13]) H7) (
 doQ (ab env.P 71 (some v7) 0) fun v15 =>
 doQ (an env.P (Heap.get H6) 3 (some v15)) fun v16 =>
 doQ (qBin env.P .add 3 (.tmp 36) (.const (.int .i64 1)) (some v16) (some (.v (.int .i64 1)))) fun v17 =>
 doQ (ay env.P false (Heap.get H6) (⟨0,39,Heap.gen H6 0 39,0⟩:Ref) .len #[50] [x1]) fun v18 =>
 doQ (bu env.P 71 (some [(0,v17),(1,v18)])) fun v19 =>
 doW (nRes H6 (⟨0,9,Heap.gen H6 0 9,0⟩:Ref) (bO env.P (⟨0,9,Heap.gen H6 0 9,0⟩:Ref) 71)) fun v20 H7 =>
 doW (aw env.P H7 71 (some v20) (some v19)) fun v21 H8 =>
 doQ (ab env.P 71 (some v20) 0) fun v22 =>
 doQ (an env.P (Heap.get H8) 3 (some v22)) fun v23 =>
 doQ (qBin env.P .geq 3 (.tmp 42) (.const (.int .i64 2147483648)) (some v23) (some (.v (.int .i64 2147483648)))) fun v24 =>
 br (some v24) (
 doQ (bu env.P 24 (some [])) fun v25 =>
 doW (aw env.P H8 24 (some v2) (some v25)) fun v26 H9 =>
 doQ (aE env.P H9 v2 24) fun v27 =>
 Q (.tup [v27,(.v (.int .i64 9))]) H9) (
 doQ (ab env.P 71 (some v20) 0) fun v25 =>
 doQ (an env.P (Heap.get H8) 3 (some v25)) fun v26 =>
 doQ (qBin env.P .rem 3 (.tmp 46) (.const (.int .i64 2)) (some v26) (some (.v (.int .i64 2)))) fun v27 =>
 doQ (
  ay env.P false (Heap.get H8) (⟨0,49,Heap.gen H8 0 49,0⟩:Ref) .len #[50] [x1]) fun v28 =>
  GoL env Try.f22 0 gO [(4,v2),(50,(.v (.int .i64 0))),(2,v1),(11,(.v (.int .i64 0))),(10,v27),(48,x1),(9,v20),(49,v28)] H8 Q))))
theorem y8:gG=fun g x0 x1 H Q=>wp env Try.f22 none 0 sN sX Q 500 [.code ma] (ofL g [(0,x0),(1,x1)]) H:=by kernel_rfl
theorem zu (x0 x1:AV) (H:Heap) (Q:AV→Heap→Prop) (h : ∀g,gG g x0 x1 H Q):GoL env Try.f22 0 [.code ma] [(0,x0),(1,x1)] H Q:=⟨fun g=>bg (by have h:=h g;rw [y8] at h;exact h)⟩
def jh (g:Nat→AV) (x4 x50 x2 x11 x10 x48 x9 x49:AV) (H:Heap) (Q:AV→Heap→Prop):Prop :=
 doQ (qBin env.P .lss 3 (.tmp 50) (.tmp 49) (some x50) (some x49)) fun v1 =>
 br (some v1) (
 doQ (au env.P (Heap.get H) 50 (some x48) (some x50)) fun v2 =>
 doQ (an env.P (Heap.get H) 48 (some v2)) fun v3 =>
 doW (nRes H (⟨0,13,Heap.gen H 0 13,0⟩:Ref) (bO env.P (⟨0,13,Heap.gen H 0 13,0⟩:Ref) 48)) fun v4 H1 =>
 doW (aw env.P H1 48 (some v4) (some v3)) fun v5 H2 =>
 doQ (an env.P (Heap.get H2) 24 (some x2)) fun v6 =>
 doQ (qBin env.P .add 3 (.const (.int .i64 1)) (.tmp 57) (some (.v (.int .i64 1))) (some x10)) fun v7 =>
 doQ (qBin env.P .add 3 (.tmp 60) (.const (.int .i64 1)) (some x50) (some (.v (.int .i64 1)))) fun v8 =>
 doQ (an env.P (Heap.get H2) 48 (some v4)) fun v9 =>
 doW (ak env true (limf env) (limt env 0) H2 (⟨0,63,Heap.gen H2 0 63,0⟩:Ref) (some (.fn (.func 14) [] [])) [v6,v7,x11,v8,v9]) fun v10 H3 =>
 doQ (ao (some v10) 0) fun v11 =>
 doQ (ao (some v10) 1) fun v12 =>
 doQ (ao (some v10) 2) fun v13 =>
 doW (aw env.P H3 24 (some x2) (some v11)) fun v14 H4 =>
 doQ (qBin env.P .neq 25 (.tmp 67) (.const (.int .i64 0)) (some v13) (some (.v (.int .i64 0)))) fun v15 =>
 br (some v15) (
 doQ (bu env.P 24 (some [])) fun v16 =>
 doW (aw env.P H4 24 (some x4) (some v16)) fun v17 H5 =>
 doQ (aE env.P H5 x4 24) fun v18 =>
 Q (.tup [v18,v13]) H5) (
 doQ (qBin env.P .add 3 (.tmp 50) (.const (.int .i64 1)) (some x50) (some (.v (.int .i64 1)))) fun v16 =>
  GoL env Try.f22 0 gO [(4,x4),(50,v16),(2,x2),(11,v12),(10,x10),(48,x48),(9,x9),(49,x49)] H4 Q)) (
 doQ (an env.P (Heap.get H) 24 (some x2)) fun v2 =>
 doQ (qBin env.P .add 3 (.const (.int .i64 6144)) (.tmp 73) (some (.v (.int .i64 6144))) (some x10)) fun v3 =>
 doQ (an env.P (Heap.get H) 71 (some x9)) fun v4 =>
 doW (ak env false (limf env) (limt env 0) H (⟨0,76,Heap.gen H 0 76,0⟩:Ref) (some (.fn (.func 39) [] [])) [v4]) fun v5 H1 =>
 doW (ak env false (limf env) (limt env 0) H1 (⟨0,77,Heap.gen H1 0 77,0⟩:Ref) (some (.fn (.func 27) [] [])) [v2,v3,v5]) fun v6 H2 =>
 doQ (ao (some v6) 0) fun v7 =>
 doQ (ao (some v6) 1) fun v8 =>
 doW (aw env.P H2 24 (some x4) (some v7)) fun v9 H3 =>
 doQ (aE env.P H3 x4 24) fun v10 =>
 Q (.tup [v10,v8]) H3)
theorem uD:jh=fun g x4 x50 x2 x11 x10 x48 x9 x49 H Q=>wp env Try.f22 none 0 sN sX Q 500 (fk gO) (ofL g [(4,x4),(50,x50),(2,x2),(11,x11),(10,x10),(48,x48),(9,x9),(49,x49)]) H:=by kernel_rfl
theorem pH (x4 x50 x2 x11 x10 x48 x9 x49:AV) (H:Heap) (Q:AV→Heap→Prop) (h : ∀g,jh g x4 x50 x2 x11 x10 x48 x9 x49 H Q):GoL env Try.f22 0 gO [(4,x4),(50,x50),(2,x2),(11,x11),(10,x10),(48,x48),(9,x9),(49,x49)] H Q:=cQ fun g=>bg (by have h:=h g;rw [uD] at h;exact h)
noncomputable def gE:Code:=(Try.f23.body).getD .skip
def o6:Nat→Option (List Nat):=fun i=>none
def pg:Nat→Bool:=fun i=>false
def gI (g:Nat→AV) (x0:AV) (H:Heap) (Q:AV→Heap→Prop):Prop :=
 doW (nRes H (⟨0,2,Heap.gen H 0 2,0⟩:Ref) (bO env.P (⟨0,2,Heap.gen H 0 2,0⟩:Ref) 48)) fun v1 H1 =>
 doQ (bu env.P 33 (some [(0,(a8 1)),(1,(a32 1))])) fun v2 =>
 doQ (bu env.P 35 (some [(0,v2),(1,(a8 2))])) fun v3 =>
 doQ (bu env.P 42 (some [(1,v3)])) fun v4 =>
 doQ (bu env.P 48 (some [(0,(a8 1)),(1,x0),(2,v4)])) fun v5 =>
 doW (aw env.P H1 48 (some v1) (some v5)) fun v6 H2 =>
 doQ (aE env.P H2 v1 48) fun v7 =>
 Q v7 H2
theorem oQ:gI=fun g x0 H Q=>wp env Try.f23 none 0 o6 pg Q 500 [.code gE] (ofL g [(0,x0)]) H:=by kernel_rfl
theorem oV (x0:AV) (H:Heap) (Q:AV→Heap→Prop) (h : ∀g,gI g x0 H Q):GoL env Try.f23 0 [.code gE] [(0,x0)] H Q:=⟨fun g=>bg (by have h:=h g;rw [oQ] at h;exact h)⟩
noncomputable def fZ:Code:=(Try.f24.body).getD .skip
def oy:Nat→Option (List Nat):=fun i=>none
def oH:Nat→Bool:=fun i=>false
def gh (g:Nat→AV) (H:Heap) (Q:AV→Heap→Prop):Prop :=
 doW (ak env true (limf env) (limt env 0) H (⟨0,8,Heap.gen H 0 8,0⟩:Ref) (some (.fn (.func 10) [] [])) []) fun v1 H1 =>
 doW (ak env true (limf env) (limt env 0) H1 (⟨0,9,Heap.gen H1 0 9,0⟩:Ref) (some (.fn (.func 9) [] [])) [v1,(.v (.int .i64 (-1)))]) fun v2 H2 =>
 doQ (ao (some v2) 0) fun v3 =>
 doQ (ao (some v2) 1) fun v4 =>
 doW (nRes H2 (⟨0,1,Heap.gen H2 0 1,0⟩:Ref) (bO env.P (⟨0,1,Heap.gen H2 0 1,0⟩:Ref) 24)) fun v5 H3 =>
 doW (aw env.P H3 24 (some v5) (some v3)) fun v6 H4 =>
 doQ (an env.P (Heap.get H4) 24 (some v5)) fun v7 =>
 doW (ak env false (limf env) (limt env 0) H4 (⟨0,14,Heap.gen H4 0 14,0⟩:Ref) (some (.fn (.func 23) [] [])) [(.v (.int .i64 1))]) fun v8 H5 =>
 doW (fX env.P true false H5 (⟨0,15,Heap.gen H5 0 15,0⟩:Ref) 50 1 (some [(0,v8)])) fun v9 H6 =>
 doW (ak env false (limf env) (limt env 0) H6 (⟨0,16,Heap.gen H6 0 16,0⟩:Ref) (some (.fn (.func 22) [] [])) [v7,v9]) fun v10 H7 =>
 doQ (ao (some v10) 0) fun v11 =>
 doQ (ao (some v10) 1) fun v12 =>
 doW (nRes H7 (⟨0,3,Heap.gen H7 0 3,0⟩:Ref) (bO env.P (⟨0,3,Heap.gen H7 0 3,0⟩:Ref) 24)) fun v13 H8 =>
 doW (aw env.P H8 24 (some v13) (some v11)) fun v14 H9 =>
 doQ (an env.P (Heap.get H9) 24 (some v13)) fun v15 =>
 doW (ak env false (limf env) (limt env 0) H9 (⟨0,21,Heap.gen H9 0 21,0⟩:Ref) (some (.fn (.func 23) [] [])) [(.v (.int .i64 1))]) fun v16 H10 =>
 doW (ak env false (limf env) (limt env 0) H10 (⟨0,22,Heap.gen H10 0 22,0⟩:Ref) (some (.fn (.func 23) [] [])) [(.v (.int .i64 2))]) fun v17 H11 =>
 doW (fX env.P true false H11 (⟨0,23,Heap.gen H11 0 23,0⟩:Ref) 50 2 (some [(0,v16),(1,v17)])) fun v18 H12 =>
 doW (ak env false (limf env) (limt env 0) H12 (⟨0,24,Heap.gen H12 0 24,0⟩:Ref) (some (.fn (.func 22) [] [])) [v15,v18]) fun v19 H13 =>
 doQ (ao (some v19) 0) fun v20 =>
 doQ (ao (some v19) 1) fun v21 =>
 doW (nRes H13 (⟨0,5,Heap.gen H13 0 5,0⟩:Ref) (bO env.P (⟨0,5,Heap.gen H13 0 5,0⟩:Ref) 24)) fun v22 H14 =>
 doW (aw env.P H14 24 (some v22) (some v20)) fun v23 H15 =>
 doQ (qBin env.P .eql 25 (.tmp 27) (.const (.int .i64 0)) (some v4) (some (.v (.int .i64 0)))) fun v24 =>
 gQ v24 true (an env.P (Heap.get H15) 24 (some v5)) fun v25 =>
 gW v24 true H15 (ak env false (limf env) (limt env 0) H15 (⟨0,31,Heap.gen H15 0 31,0⟩:Ref) (some (.fn (.func 25) [] [])) [v25,(.v (.int .i64 0)),(.v (.slice none 0 0))]) fun v26 H16 =>
 doQ (aY (some v24) (some v26) (some (.v (.bool false)))) fun v27 =>
 gQ v27 true (qVal (some v12)) fun v28 =>
 gQ v27 true (qBin env.P .eql 25 (.tmp 34) (.const (.int .i64 0)) (some v28) (some (.v (.int .i64 0)))) fun v29 =>
 doQ (aY (some v27) (some v29) (some (.v (.bool false)))) fun v30 =>
 gQ v30 true (an env.P (Heap.get H16) 24 (some v13)) fun v31 =>
 gW v30 true H16 (ak env false (limf env) (limt env 0) H16 (⟨0,39,Heap.gen H16 0 39,0⟩:Ref) (some (.fn (.func 23) [] [])) [(.v (.int .i64 1))]) fun v32 H17 =>
 gW v30 true H17 (fX env.P true false H17 (⟨0,40,Heap.gen H17 0 40,0⟩:Ref) 50 1 (some [(0,v32)])) fun v33 H18 =>
 gW v30 true H18 (ak env false (limf env) (limt env 0) H18 (⟨0,41,Heap.gen H18 0 41,0⟩:Ref) (some (.fn (.func 25) [] [])) [v31,(.v (.int .i64 1)),v33]) fun v34 H19 =>
 doQ (aY (some v30) (some v34) (some (.v (.bool false)))) fun v35 =>
 gQ v35 true (qVal (some v21)) fun v36 =>
 gQ v35 true (qBin env.P .eql 25 (.tmp 44) (.const (.int .i64 0)) (some v36) (some (.v (.int .i64 0)))) fun v37 =>
 doQ (aY (some v35) (some v37) (some (.v (.bool false)))) fun v38 =>
 gQ v38 true (an env.P (Heap.get H19) 24 (some v22)) fun v39 =>
 gW v38 true H19 (ak env false (limf env) (limt env 0) H19 (⟨0,49,Heap.gen H19 0 49,0⟩:Ref) (some (.fn (.func 23) [] [])) [(.v (.int .i64 1))]) fun v40 H20 =>
 gW v38 true H20 (ak env false (limf env) (limt env 0) H20 (⟨0,50,Heap.gen H20 0 50,0⟩:Ref) (some (.fn (.func 23) [] [])) [(.v (.int .i64 2))]) fun v41 H21 =>
 gW v38 true H21 (fX env.P true false H21 (⟨0,51,Heap.gen H21 0 51,0⟩:Ref) 50 2 (some [(0,v40),(1,v41)])) fun v42 H22 =>
 gW v38 true H22 (ak env false (limf env) (limt env 0) H22 (⟨0,52,Heap.gen H22 0 52,0⟩:Ref) (some (.fn (.func 25) [] [])) [v39,(.v (.int .i64 2)),v42]) fun v43 H23 =>
 doQ (aY (some v38) (some v43) (some (.v (.bool false)))) fun v44 =>
 Q v44 H23
theorem n8:gh=fun g  H Q=>wp env Try.f24 none 0 oy oH Q 500 [.code fZ] (ofL g []) H:=by kernel_rfl
theorem od (H:Heap) (Q:AV→Heap→Prop) (h : ∀g,gh g  H Q):GoL env Try.f24 0 [.code fZ] [] H Q:=⟨fun g=>bg (by have h:=h g;rw [n8] at h;exact h)⟩
noncomputable def fY:Code:=(Try.f25.body).getD .skip
def ox:Nat→Option (List Nat):=fun i=>none
def oG:Nat→Bool:=fun i=>false
def gf (g:Nat→AV) (x0 x1 x2:AV) (H:Heap) (Q:AV→Heap→Prop):Prop :=
 doW (nRes H (⟨0,3,Heap.gen H 0 3,0⟩:Ref) (qBox env.P (⟨0,3,Heap.gen H 0 3,0⟩:Ref) 24 (some x0))) fun v1 H1 =>
 doQ (an env.P (Heap.get H1) 24 (some v1)) fun v2 =>
 doW (ak env true (limf env) (limt env 0) H1 (⟨0,14,Heap.gen H1 0 14,0⟩:Ref) (some (.fn (.func 37) [] [])) [v2]) fun v3 H2 =>
 doQ (ao (some v3) 0) fun v4 =>
 doQ (ao (some v3) 1) fun v5 =>
 doW (nRes H2 (⟨0,7,Heap.gen H2 0 7,0⟩:Ref) (bO env.P (⟨0,7,Heap.gen H2 0 7,0⟩:Ref) 71)) fun v6 H3 =>
 doW (aw env.P H3 71 (some v6) (some v4)) fun v7 H4 =>
 doQ (an env.P (Heap.get H4) 24 (some v1)) fun v8 =>
 doW (ak env true (limf env) (limt env 0) H4 (⟨0,19,Heap.gen H4 0 19,0⟩:Ref) (some (.fn (.func 28) [] [])) [v8]) fun v9 H5 =>
 doQ (ao (some v9) 0) fun v10 =>
 doQ (ao (some v9) 1) fun v11 =>
 doQ (ao (some v9) 2) fun v12 =>
 doW (nRes H5 (⟨0,10,Heap.gen H5 0 10,0⟩:Ref) (bO env.P (⟨0,10,Heap.gen H5 0 10,0⟩:Ref) 71)) fun v13 H6 =>
 doW (aw env.P H6 71 (some v13) (some v11)) fun v14 H7 =>
 doQ (qBin env.P .eql 25 (.tmp 23) (.const (.int .i64 0)) (some v5) (some (.v (.int .i64 0)))) fun v15 =>
 gQ v15 true (qVal (some v12)) fun v16 =>
 gQ v15 true (qBin env.P .eql 25 (.tmp 26) (.const (.int .i64 0)) (some v16) (some (.v (.int .i64 0)))) fun v17 =>
 doQ (aY (some v15) (some v17) (some (.v (.bool false)))) fun v18 =>
 gQ v18 true (an env.P (Heap.get H7) 71 (some v6)) fun v19 =>
 gQ v18 true (an env.P (Heap.get H7) 71 (some v13)) fun v20 =>
 gQ v18 true (qBin env.P .eql 71 (.tmp 30) (.tmp 31) (some v19) (some v20)) fun v21 =>
 doQ (aY (some v18) (some v21) (some (.v (.bool false)))) fun v22 =>
 gQ v22 true (an env.P (Heap.get H7) 71 (some v6)) fun v23 =>
 gQ v22 true (qVal (some x1)) fun v24 =>
 gQ v22 true (qVal (some x2)) fun v25 =>
 gQ v22 true (ay env.P false (Heap.get H7) (⟨0,38,Heap.gen H7 0 38,0⟩:Ref) .len #[50] [v25]) fun v26 =>
 gQ v22 true (bu env.P 71 (some [(0,v24),(1,v26)])) fun v27 =>
 gQ v22 true (qBin env.P .eql 71 (.tmp 35) (.tmp 39) (some v23) (some v27)) fun v28 =>
 doQ (aY (some v22) (some v28) (some (.v (.bool false)))) fun v29 =>
 gQ v29 true (qVal (some v10)) fun v30 =>
 gQ v29 true (qVal (some x2)) fun v31 =>
 gW v29 true H7 (ak env true (limf env) (limt env 0) H7 (⟨0,45,Heap.gen H7 0 45,0⟩:Ref) (some (.fn (.func 19) [] [])) [v30,v31]) fun v32 H8 =>
 doQ (aY (some v29) (some v32) (some (.v (.bool false)))) fun v33 =>
 Q v33 H8
theorem nZ:gf=fun g x0 x1 x2 H Q=>wp env Try.f25 none 0 ox oG Q 500 [.code fY] (ofL g [(0,x0),(1,x1),(2,x2)]) H:=by kernel_rfl
theorem n9 (x0 x1 x2:AV) (H:Heap) (Q:AV→Heap→Prop) (h : ∀g,gf g x0 x1 x2 H Q):GoL env Try.f25 0 [.code fY] [(0,x0),(1,x1),(2,x2)] H Q:=⟨fun g=>bg (by have h:=h g;rw [nZ] at h;exact h)⟩
noncomputable def ph:Code:=(Try.f28.body).getD .skip
def Ad:Nat→Option (List Nat):=fun i=>none
def Au:Nat→Bool:=fun i=>false
def j4 (g:Nat→AV) (x0:AV) (H:Heap) (Q:AV→Heap→Prop):Prop :=
 doW (nRes H (⟨0,1,Heap.gen H 0 1,0⟩:Ref) (qBox env.P (⟨0,1,Heap.gen H 0 1,0⟩:Ref) 24 (some x0))) fun v1 H1 =>
 doW (nRes H1 (⟨0,3,Heap.gen H1 0 3,0⟩:Ref) (bO env.P (⟨0,3,Heap.gen H1 0 3,0⟩:Ref) 71)) fun v2 H2 =>
 doQ (an env.P (Heap.get H2) 24 (some v1)) fun v3 =>
 doW (ak env true (limf env) (limt env 0) H2 (⟨0,11,Heap.gen H2 0 11,0⟩:Ref) (some (.fn (.func 37) [] [])) [v3]) fun v4 H3 =>
 doQ (ao (some v4) 0) fun v5 =>
 doQ (ao (some v4) 1) fun v6 =>
 doW (nRes H3 (⟨0,5,Heap.gen H3 0 5,0⟩:Ref) (bO env.P (⟨0,5,Heap.gen H3 0 5,0⟩:Ref) 71)) fun v7 H4 =>
 doW (aw env.P H4 71 (some v7) (some v5)) fun v8 H5 =>
 doQ (qBin env.P .neq 25 (.tmp 14) (.const (.int .i64 0)) (some v6) (some (.v (.int .i64 0)))) fun v9 =>
 br (some v9) (
 doQ (an env.P (Heap.get H5) 71 (some v7)) fun v10 =>
 doW (aw env.P H5 71 (some v2) (some v10)) fun v11 H6 =>
 doQ (aE env.P H6 v2 71) fun v12 =>
 Q (.tup [(.v (.slice none 0 0)),v12,v6]) H6) (
 doQ (an env.P (Heap.get H5) 24 (some v1)) fun v10 =>
 doQ (ab env.P 71 (some v7) 0) fun v11 =>
 doQ (an env.P (Heap.get H5) 3 (some v11)) fun v12 =>
 doQ (qBin env.P .rem 3 (.tmp 21) (.const (.int .i64 2)) (some v12) (some (.v (.int .i64 2)))) fun v13 =>
 doQ (qBin env.P .add 3 (.const (.int .i64 1)) (.tmp 22) (some (.v (.int .i64 1))) (some v13)) fun v14 =>
 doQ (ab env.P 71 (some v7) 1) fun v15 =>
 doQ (an env.P (Heap.get H5) 3 (some v15)) fun v16 =>
 doW (ak env true (limf env) (limt env 0) H5 (⟨0,26,Heap.gen H5 0 26,0⟩:Ref) (some (.fn (.func 15) [] [])) [v10,v14,(.v (.int .i64 0)),v16]) fun v17 H6 =>
 doQ (ao (some v17) 0) fun v18 =>
 doQ (ao (some v17) 1) fun v19 =>
 doQ (ao (some v17) 2) fun v20 =>
 doQ (qBin env.P .eql 25 (.tmp 30) (.const (.int .i64 0)) (some v20) (some (.v (.int .i64 0)))) fun v21 =>
 gQ v21 true (qVal (some v18)) fun v22 =>
 gQ v21 true (ay env.P false (Heap.get H6) (⟨0,34,Heap.gen H6 0 34,0⟩:Ref) .len #[50] [v22]) fun v23 =>
 gQ v21 true (ab env.P 71 (some v7) 1) fun v24 =>
 gQ v21 true (an env.P (Heap.get H6) 3 (some v24)) fun v25 =>
 gQ v21 true (qBin env.P .neq 3 (.tmp 34) (.tmp 36) (some v23) (some v25)) fun v26 =>
 doQ (aY (some v21) (some v26) (some (.v (.bool false)))) fun v27 =>
 br (some v27) (
 doQ (qBin env.P .neq 25 (.tmp 39) (.const (.int .i64 0)) (some (.v (.int .i64 8))) (some (.v (.int .i64 0)))) fun v28 =>
 br (some v28) (
 doQ (bu env.P 71 (some [])) fun v29 =>
 doW (aw env.P H6 71 (some v2) (some v29)) fun v30 H7 =>
 doQ (aE env.P H7 v2 71) fun v31 =>
 Q (.tup [(.v (.slice none 0 0)),v31,(.v (.int .i64 8))]) H7) (
 doQ (an env.P (Heap.get H6) 71 (some v7)) fun v29 =>
 doW (aw env.P H6 71 (some v2) (some v29)) fun v30 H7 =>
 doQ (aE env.P H7 v2 71) fun v31 =>
 Q (.tup [v18,v31,(.v (.int .i64 0))]) H7)) (
 doQ (qBin env.P .neq 25 (.tmp 39) (.const (.int .i64 0)) (some v20) (some (.v (.int .i64 0)))) fun v28 =>
 br (some v28) (
 doQ (bu env.P 71 (some [])) fun v29 =>
 doW (aw env.P H6 71 (some v2) (some v29)) fun v30 H7 =>
 doQ (aE env.P H7 v2 71) fun v31 =>
 Q (.tup [(.v (.slice none 0 0)),v31,v20]) H7) (
 doQ (an env.P (Heap.get H6) 71 (some v7)) fun v29 =>
 doW (aw env.P H6 71 (some v2) (some v29)) fun v30 H7 =>
 doQ (aE env.P H7 v2 71) fun v31 =>
 Q (.tup [v18,v31,(.v (.int .i64 0))]) H7)))
theorem y0:j4=fun g x0 H Q=>wp env Try.f28 none 0 Ad Au Q 500 [.code ph] (ofL g [(0,x0)]) H:=by kernel_rfl
theorem zt (x0:AV) (H:Heap) (Q:AV→Heap→Prop) (h : ∀g,j4 g x0 H Q):GoL env Try.f28 0 [.code ph] [(0,x0)] H Q:=⟨fun g=>bg (by have h:=h g;rw [y0] at h;exact h)⟩
noncomputable def lK:Code:=(Try.f37.body).getD .skip
def uU:Nat→Option (List Nat):=fun i=>none
def u9:Nat→Bool:=fun i=>false
def gV (g:Nat→AV) (x0:AV) (H:Heap) (Q:AV→Heap→Prop):Prop :=
 doW (nRes H (⟨0,1,Heap.gen H 0 1,0⟩:Ref) (qBox env.P (⟨0,1,Heap.gen H 0 1,0⟩:Ref) 24 (some x0))) fun v1 H1 =>
 doW (nRes H1 (⟨0,2,Heap.gen H1 0 2,0⟩:Ref) (bO env.P (⟨0,2,Heap.gen H1 0 2,0⟩:Ref) 71)) fun v2 H2 =>
 doQ (an env.P (Heap.get H2) 24 (some v1)) fun v3 =>
 doW (ak env true (limf env) (limt env 0) H2 (⟨0,7,Heap.gen H2 0 7,0⟩:Ref) (some (.fn (.func 29) [] [])) [v3]) fun v4 H3 =>
 doQ (qBin env.P .neq 25 (.tmp 8) (.const (.int .i64 0)) (some v4) (some (.v (.int .i64 0)))) fun v5 =>
 br (some v5) (
 doQ (bu env.P 71 (some [])) fun v6 =>
 doW (aw env.P H3 71 (some v2) (some v6)) fun v7 H4 =>
 doQ (aE env.P H4 v2 71) fun v8 =>
 Q (.tup [v8,v4]) H4) (
 doQ (an env.P (Heap.get H3) 24 (some v1)) fun v6 =>
 doW (ak env false (limf env) (limt env 0) H3 (⟨0,13,Heap.gen H3 0 13,0⟩:Ref) (some (.fn (.func 58) [] [])) [v6,(.v (.int .i64 0))]) fun v7 H4 =>
 doQ (an env.P (Heap.get H4) 24 (some v1)) fun v8 =>
 doW (ak env false (limf env) (limt env 0) H4 (⟨0,15,Heap.gen H4 0 15,0⟩:Ref) (some (.fn (.func 58) [] [])) [v8,(.v (.int .i64 1))]) fun v9 H5 =>
 doQ (bu env.P 122 (some [(0,v7),(1,v9)])) fun v10 =>
 doW (nRes H5 (⟨0,5,Heap.gen H5 0 5,0⟩:Ref) (bO env.P (⟨0,5,Heap.gen H5 0 5,0⟩:Ref) 122)) fun v11 H6 =>
 doW (aw env.P H6 122 (some v11) (some v10)) fun v12 H7 =>
 doQ (au env.P (Heap.get H7) 122 (some v11) (some (.v (.int .i64 0)))) fun v13 =>
 doQ (ab env.P 71 (some v13) 0) fun v14 =>
 doQ (an env.P (Heap.get H7) 3 (some v14)) fun v15 =>
 doQ (au env.P (Heap.get H7) 122 (some v11) (some (.v (.int .i64 1)))) fun v16 =>
 doQ (ab env.P 71 (some v16) 0) fun v17 =>
 doQ (an env.P (Heap.get H7) 3 (some v17)) fun v18 =>
 doQ (qBin env.P .gtr 3 (.tmp 19) (.tmp 22) (some v15) (some v18)) fun v19 =>
 br (some v19) (
 doQ (au env.P (Heap.get H7) 122 (some v11) (some (.v (.int .i64 0)))) fun v20 =>
 doQ (an env.P (Heap.get H7) 71 (some v20)) fun v21 =>
 doW (aw env.P H7 71 (some v2) (some v21)) fun v22 H8 =>
 doQ (aE env.P H8 v2 71) fun v23 =>
 Q (.tup [v23,(.v (.int .i64 0))]) H8) (
 doQ (au env.P (Heap.get H7) 122 (some v11) (some (.v (.int .i64 1)))) fun v20 =>
 doQ (an env.P (Heap.get H7) 71 (some v20)) fun v21 =>
 doW (aw env.P H7 71 (some v2) (some v21)) fun v22 H8 =>
 doQ (aE env.P H8 v2 71) fun v23 =>
 Q (.tup [v23,(.v (.int .i64 0))]) H8))
theorem uE:gV=fun g x0 H Q=>wp env Try.f37 none 0 uU u9 Q 500 [.code lK] (ofL g [(0,x0)]) H:=by kernel_rfl
theorem uM (x0:AV) (H:Heap) (Q:AV→Heap→Prop) (h : ∀g,gV g x0 H Q):GoL env Try.f37 0 [.code lK] [(0,x0)] H Q:=⟨fun g=>bg (by have h:=h g;rw [uE] at h;exact h)⟩
noncomputable def kK:Code:=(Try.f38.body).getD .skip
noncomputable def gM:List Item:=(bP 5 400 [.code kK]).getD []
def rk:Nat→Option (List Nat):=fun i=>cond (Nat.beq i 5) (some [13,3,11,12]) (none)
def rn:Nat→Bool:=fun i=>false
def kM (g:Nat→AV) (x0:AV) (H:Heap) (Q:AV→Heap→Prop):Prop :=
 doQ (ay env.P false (Heap.get H) (⟨0,9,Heap.gen H 0 9,0⟩:Ref) .len #[50] [x0]) fun v1 =>
 doQ (qBin env.P .gtr 3 (.tmp 9) (.const (.int .i64 2048)) (some v1) (some (.v (.int .i64 2048)))) fun v2 =>
 br (some v2) (
 Q (.v (.int .i64 4)) H) (
 doQ (ay env.P false (Heap.get H) (⟨0,12,Heap.gen H 0 12,0⟩:Ref) .len #[50] [x0]) fun v3 =>
  GoL env Try.f38 0 gM [(13,(.v (.int .i64 0))),(3,(.v (.int .i64 0))),(11,x0),(12,v3)] H Q)
theorem xd:kM=fun g x0 H Q=>wp env Try.f38 none 0 rk rn Q 500 [.code kK] (ofL g [(0,x0)]) H:=by kernel_rfl
theorem xu (x0:AV) (H:Heap) (Q:AV→Heap→Prop) (h : ∀g,kM g x0 H Q):GoL env Try.f38 0 [.code kK] [(0,x0)] H Q:=⟨fun g=>bg (by have h:=h g;rw [xd] at h;exact h)⟩
def fy (g:Nat→AV) (x13 x3 x11 x12:AV) (H:Heap) (Q:AV→Heap→Prop):Prop :=
 doQ (qBin env.P .lss 3 (.tmp 13) (.tmp 12) (some x13) (some x12)) fun v1 =>
 br (some v1) (
 doQ (au env.P (Heap.get H) 50 (some x11) (some x13)) fun v2 =>
 doQ (an env.P (Heap.get H) 48 (some v2)) fun v3 =>
 doW (nRes H (⟨0,5,Heap.gen H 0 5,0⟩:Ref) (bO env.P (⟨0,5,Heap.gen H 0 5,0⟩:Ref) 48)) fun v4 H1 =>
 doW (aw env.P H1 48 (some v4) (some v3)) fun v5 H2 =>
 doQ (an env.P (Heap.get H2) 48 (some v4)) fun v6 =>
 doW (ak env true (limf env) (limt env 0) H2 (⟨0,19,Heap.gen H2 0 19,0⟩:Ref) (some (.fn (.func 20) [] [])) [v6]) fun v7 H3 =>
 doQ (ao (some v7) 0) fun v8 =>
 doQ (ao (some v7) 1) fun v9 =>
 doQ (qBin env.P .neq 25 (.tmp 22) (.const (.int .i64 0)) (some v9) (some (.v (.int .i64 0)))) fun v10 =>
 br (some v10) (
 Q v9 H3) (
 doQ (qBin env.P .add 3 (.tmp 25) (.tmp 26) (some x3) (some v8)) fun v11 =>
 doQ (qBin env.P .add 3 (.tmp 13) (.const (.int .i64 1)) (some x13) (some (.v (.int .i64 1)))) fun v12 =>
  GoL env Try.f38 0 gM [(13,v12),(3,v11),(11,x11),(12,x12)] H3 Q)) (
 doQ (qBin env.P .gtr 3 (.tmp 29) (.const (.int .i64 2048)) (some x3) (some (.v (.int .i64 2048)))) fun v2 =>
 br (some v2) (
 Q (.v (.int .i64 9)) H) (
 Q (.v (.int .i64 0)) H))
theorem uy:fy=fun g x13 x3 x11 x12 H Q=>wp env Try.f38 none 0 rk rn Q 500 (fk gM) (ofL g [(13,x13),(3,x3),(11,x11),(12,x12)]) H:=by kernel_rfl
theorem lC (x13 x3 x11 x12:AV) (H:Heap) (Q:AV→Heap→Prop) (h : ∀g,fy g x13 x3 x11 x12 H Q):GoL env Try.f38 0 gM [(13,x13),(3,x3),(11,x11),(12,x12)] H Q:=cQ fun g=>bg (by have h:=h g;rw [uy] at h;exact h)
noncomputable def iZ:Code:=(Try.f39.body).getD .skip
noncomputable def jf:List Item:=(bP 4 400 [.code iZ]).getD []
noncomputable def je:List Item:=(bP 9 400 [.code iZ]).getD []
def nC:Nat→Option (List Nat):=fun i=>cond (Nat.beq i 4) (some [9,1,3]) (cond (Nat.beq i 9) (some [23,1,3]) (none))
def nG:Nat→Bool:=fun i=>false
def nS (g:Nat→AV) (x0:AV) (H:Heap) (Q:AV→Heap→Prop):Prop :=
 doW (nRes H (⟨0,1,Heap.gen H 0 1,0⟩:Ref) (qBox env.P (⟨0,1,Heap.gen H 0 1,0⟩:Ref) 71 (some x0))) fun v1 H1 =>
 doW (nRes H1 (⟨0,6,Heap.gen H1 0 6,0⟩:Ref) (rJ env.P (⟨0,6,Heap.gen H1 0 6,0⟩:Ref) 68 (some (.v (.int .i64 128))) (some (.v (.int .i64 128))))) fun v2 H2 =>
 doQ (au env.P (Heap.get H2) 68 (some v2) (some (.v (.int .i64 0)))) fun v3 =>
 doW (aw env.P H2 5 (some v3) (some (a8 77))) fun v4 H3 =>
  GoL env Try.f39 0 jf [(9,(.v (.int .i64 0))),(1,v1),(3,v2)] H3 Q
theorem xe:nS=fun g x0 H Q=>wp env Try.f39 none 0 nC nG Q 500 [.code iZ] (ofL g [(0,x0)]) H:=by kernel_rfl
theorem xv (x0:AV) (H:Heap) (Q:AV→Heap→Prop) (h : ∀g,nS g x0 H Q):GoL env Try.f39 0 [.code iZ] [(0,x0)] H Q:=⟨fun g=>bg (by have h:=h g;rw [xe] at h;exact h)⟩
def eM (g:Nat→AV) (x9 x1 x3:AV) (H:Heap) (Q:AV→Heap→Prop):Prop :=
 doQ (qBin env.P .lss 3 (.tmp 9) (.const (.int .i64 4)) (some x9) (some (.v (.int .i64 4)))) fun v1 =>
 br (some v1) (
 doQ (qBin env.P .sub 3 (.const (.int .i64 4)) (.tmp 13) (some (.v (.int .i64 4))) (some x9)) fun v2 =>
 doQ (ab env.P 71 (some x1) 0) fun v3 =>
 doQ (an env.P (Heap.get H) 3 (some v3)) fun v4 =>
 doQ (qBin env.P .mul 3 (.const (.int .i64 8)) (.tmp 17) (some (.v (.int .i64 8))) (some x9)) fun v5 =>
 doQ (qBin env.P .shr 3 (.tmp 16) (.tmp 18) (some v4) (some v5)) fun v6 =>
 doQ (aJ env.P (Heap.get H) (⟨0,20,Heap.gen H 0 20,0⟩:Ref) 3 5 (some v6)) fun v7 =>
 doQ (au env.P (Heap.get H) 68 (some x3) (some v2)) fun v8 =>
 doW (aw env.P H 5 (some v8) (some v7)) fun v9 H1 =>
 doQ (qBin env.P .add 3 (.tmp 9) (.const (.int .i64 1)) (some x9) (some (.v (.int .i64 1)))) fun v10 =>
  GoL env Try.f39 0 jf [(9,v10),(1,x1),(3,x3)] H1 Q) (
  GoL env Try.f39 0 je [(23,(.v (.int .i64 0))),(1,x1),(3,x3)] H Q)
theorem uC:eM=fun g x9 x1 x3 H Q=>wp env Try.f39 none 0 nC nG Q 500 (fk jf) (ofL g [(9,x9),(1,x1),(3,x3)]) H:=by kernel_rfl
theorem gJ (x9 x1 x3:AV) (H:Heap) (Q:AV→Heap→Prop) (h : ∀g,eM g x9 x1 x3 H Q):GoL env Try.f39 0 jf [(9,x9),(1,x1),(3,x3)] H Q:=cQ fun g=>bg (by have h:=h g;rw [uC] at h;exact h)
def fA (g:Nat→AV) (x23 x1 x3:AV) (H:Heap) (Q:AV→Heap→Prop):Prop :=
 doQ (qBin env.P .lss 3 (.tmp 23) (.const (.int .i64 3)) (some x23) (some (.v (.int .i64 3)))) fun v1 =>
 br (some v1) (
 doQ (qBin env.P .sub 3 (.const (.int .i64 7)) (.tmp 27) (some (.v (.int .i64 7))) (some x23)) fun v2 =>
 doQ (ab env.P 71 (some x1) 1) fun v3 =>
 doQ (an env.P (Heap.get H) 3 (some v3)) fun v4 =>
 doQ (qBin env.P .mul 3 (.const (.int .i64 8)) (.tmp 31) (some (.v (.int .i64 8))) (some x23)) fun v5 =>
 doQ (qBin env.P .shr 3 (.tmp 30) (.tmp 32) (some v4) (some v5)) fun v6 =>
 doQ (aJ env.P (Heap.get H) (⟨0,34,Heap.gen H 0 34,0⟩:Ref) 3 5 (some v6)) fun v7 =>
 doQ (au env.P (Heap.get H) 68 (some x3) (some v2)) fun v8 =>
 doW (aw env.P H 5 (some v8) (some v7)) fun v9 H1 =>
 doQ (qBin env.P .add 3 (.tmp 23) (.const (.int .i64 1)) (some x23) (some (.v (.int .i64 1)))) fun v10 =>
  GoL env Try.f39 0 je [(23,v10),(1,x1),(3,x3)] H1 Q) (
 Q x3 H)
theorem uB:fA=fun g x23 x1 x3 H Q=>wp env Try.f39 none 0 nC nG Q 500 (fk je) (ofL g [(23,x23),(1,x1),(3,x3)]) H:=by kernel_rfl
theorem jd (x23 x1 x3:AV) (H:Heap) (Q:AV→Heap→Prop) (h : ∀g,fA g x23 x1 x3 H Q):GoL env Try.f39 0 je [(23,x23),(1,x1),(3,x3)] H Q:=cQ fun g=>bg (by have h:=h g;rw [uB] at h;exact h)
noncomputable def jZ:Code:=(Try.f58.body).getD .skip
noncomputable def iz:List Item:=(bP 5 400 [.code jZ]).getD []
noncomputable def gN:List Item:=(bP 10 400 [.code jZ]).getD []
def oZ:Nat→Option (List Nat):=fun i=>cond (Nat.beq i 5) (some [24,4,22,5,1,23]) (cond (Nat.beq i 10) (some [39,4,37,5,1,38]) (none))
def pb:Nat→Bool:=fun i=>false
def pz (g:Nat→AV) (x0 x1:AV) (H:Heap) (Q:AV→Heap→Prop):Prop :=
 doW (nRes H (⟨0,2,Heap.gen H 0 2,0⟩:Ref) (qBox env.P (⟨0,2,Heap.gen H 0 2,0⟩:Ref) 24 (some x0))) fun v1 H1 =>
 doW (nRes H1 (⟨0,4,Heap.gen H1 0 4,0⟩:Ref) (bO env.P (⟨0,4,Heap.gen H1 0 4,0⟩:Ref) 71)) fun v2 H2 =>
 doQ (an env.P (Heap.get H2) 24 (some v1)) fun v3 =>
 doQ (qBin env.P .add 3 (.const (.int .i64 6144)) (.tmp 13) (some (.v (.int .i64 6144))) (some x1)) fun v4 =>
 doW (ak env true (limf env) (limt env 0) H2 (⟨0,15,Heap.gen H2 0 15,0⟩:Ref) (some (.fn (.func 49) [] [])) [v3,v4]) fun v5 H3 =>
 doQ (ao (some v5) 0) fun v6 =>
 doQ (ao (some v5) 1) fun v7 =>
 doQ (qBin env.P .neq 25 (.tmp 18) (.const (.int .i64 0)) (some v7) (some (.v (.int .i64 0)))) fun v8 =>
 br (some v8) (
 doQ (an env.P (Heap.get H3) 71 (some v2)) fun v9 =>
 doW (aw env.P H3 71 (some v2) (some v9)) fun v10 H4 =>
 doQ (aE env.P H4 v2 71) fun v11 =>
 Q v11 H4) (
 doQ (bK env.P (Heap.get H3) 68 (some v6) (oi (.v (.int .i64 1))) (oi (.v (.int .i64 5))) (some none)) fun v9 =>
 doQ (ay env.P false (Heap.get H3) (⟨0,23,Heap.gen H3 0 23,0⟩:Ref) .len #[68] [v9]) fun v10 =>
  GoL env Try.f58 0 iz [(24,(.v (.int .i64 0))),(4,v2),(22,v9),(5,v6),(1,x1),(23,v10)] H3 Q)
theorem yZ:pz=fun g x0 x1 H Q=>wp env Try.f58 none 0 oZ pb Q 500 [.code jZ] (ofL g [(0,x0),(1,x1)]) H:=by kernel_rfl
theorem zr (x0 x1:AV) (H:Heap) (Q:AV→Heap→Prop) (h : ∀g,pz g x0 x1 H Q):GoL env Try.f58 0 [.code jZ] [(0,x0),(1,x1)] H Q:=⟨fun g=>bg (by have h:=h g;rw [yZ] at h;exact h)⟩
def j3 (g:Nat→AV) (x24 x4 x22 x5 x1 x23:AV) (H:Heap) (Q:AV→Heap→Prop):Prop :=
 doQ (qBin env.P .lss 3 (.tmp 24) (.tmp 23) (some x24) (some x23)) fun v1 =>
 br (some v1) (
 doQ (au env.P (Heap.get H) 68 (some x22) (some x24)) fun v2 =>
 doQ (an env.P (Heap.get H) 5 (some v2)) fun v3 =>
 doQ (ab env.P 71 (some x4) 0) fun v4 =>
 doQ (an env.P (Heap.get H) 3 (some v4)) fun v5 =>
 doQ (qBin env.P .shl 3 (.tmp 29) (.const (.int .u64 8)) (some v5) (some (.v (.int .u64 8)))) fun v6 =>
 doQ (aJ env.P (Heap.get H) (⟨0,32,Heap.gen H 0 32,0⟩:Ref) 5 3 (some v3)) fun v7 =>
 doQ (qBin env.P .or 3 (.tmp 30) (.tmp 32) (some v6) (some v7)) fun v8 =>
 doQ (ab env.P 71 (some x4) 0) fun v9 =>
 doW (aw env.P H 3 (some v9) (some v8)) fun v10 H1 =>
 doQ (qBin env.P .add 3 (.tmp 24) (.const (.int .i64 1)) (some x24) (some (.v (.int .i64 1)))) fun v11 =>
  GoL env Try.f58 0 iz [(24,v11),(4,x4),(22,x22),(5,x5),(1,x1),(23,x23)] H1 Q) (
 doQ (bK env.P (Heap.get H) 68 (some x5) (oi (.v (.int .i64 5))) (oi (.v (.int .i64 8))) (some none)) fun v2 =>
 doQ (ay env.P false (Heap.get H) (⟨0,38,Heap.gen H 0 38,0⟩:Ref) .len #[68] [v2]) fun v3 =>
  GoL env Try.f58 0 gN [(39,(.v (.int .i64 0))),(4,x4),(37,v2),(5,x5),(1,x1),(38,v3)] H Q)
theorem vC:j3=fun g x24 x4 x22 x5 x1 x23 H Q=>wp env Try.f58 none 0 oZ pb Q 500 (fk iz) (ofL g [(24,x24),(4,x4),(22,x22),(5,x5),(1,x1),(23,x23)]) H:=by kernel_rfl
theorem pX (x24 x4 x22 x5 x1 x23:AV) (H:Heap) (Q:AV→Heap→Prop) (h : ∀g,j3 g x24 x4 x22 x5 x1 x23 H Q):GoL env Try.f58 0 iz [(24,x24),(4,x4),(22,x22),(5,x5),(1,x1),(23,x23)] H Q:=cQ fun g=>bg (by have h:=h g;rw [vC] at h;exact h)
def dW (g:Nat→AV) (x39 x4 x37 x5 x1 x38:AV) (H:Heap) (Q:AV→Heap→Prop):Prop :=
 doQ (qBin env.P .lss 3 (.tmp 39) (.tmp 38) (some x39) (some x38)) fun v1 =>
 br (some v1) (
 doQ (au env.P (Heap.get H) 68 (some x37) (some x39)) fun v2 =>
 doQ (an env.P (Heap.get H) 5 (some v2)) fun v3 =>
 doQ (ab env.P 71 (some x4) 1) fun v4 =>
 doQ (an env.P (Heap.get H) 3 (some v4)) fun v5 =>
 doQ (qBin env.P .shl 3 (.tmp 44) (.const (.int .u64 8)) (some v5) (some (.v (.int .u64 8)))) fun v6 =>
 doQ (aJ env.P (Heap.get H) (⟨0,47,Heap.gen H 0 47,0⟩:Ref) 5 3 (some v3)) fun v7 =>
 doQ (qBin env.P .or 3 (.tmp 45) (.tmp 47) (some v6) (some v7)) fun v8 =>
 doQ (ab env.P 71 (some x4) 1) fun v9 =>
 doW (aw env.P H 3 (some v9) (some v8)) fun v10 H1 =>
 doQ (qBin env.P .add 3 (.tmp 39) (.const (.int .i64 1)) (some x39) (some (.v (.int .i64 1)))) fun v11 =>
  GoL env Try.f58 0 gN [(39,v11),(4,x4),(37,x37),(5,x5),(1,x1),(38,x38)] H1 Q) (
 doQ (ab env.P 71 (some x4) 0) fun v2 =>
 doQ (an env.P (Heap.get H) 3 (some v2)) fun v3 =>
 doQ (qBin env.P .lss 3 (.tmp 52) (.const (.int .i64 1)) (some v3) (some (.v (.int .i64 1)))) fun v4 =>
 gQ v4 false (ab env.P 71 (some x4) 0) fun v5 =>
 gQ v4 false (an env.P (Heap.get H) 3 (some v5)) fun v6 =>
 gQ v4 false (qBin env.P .geq 3 (.tmp 56) (.const (.int .i64 2147483648)) (some v6) (some (.v (.int .i64 2147483648)))) fun v7 =>
 doQ (aY (some v4) (some (.v (.bool true))) (some v7)) fun v8 =>
 gQ v8 false (ab env.P 71 (some x4) 0) fun v9 =>
 gQ v8 false (an env.P (Heap.get H) 3 (some v9)) fun v10 =>
 gQ v8 false (qBin env.P .rem 3 (.tmp 61) (.const (.int .i64 2)) (some v10) (some (.v (.int .i64 2)))) fun v11 =>
 gQ v8 false (qVal (some x1)) fun v12 =>
 gQ v8 false (qBin env.P .neq 3 (.tmp 62) (.tmp 63) (some v11) (some v12)) fun v13 =>
 doQ (aY (some v8) (some (.v (.bool true))) (some v13)) fun v14 =>
 gQ v14 false (qVal (some x5)) fun v15 =>
 gQ v14 false (an env.P (Heap.get H) 71 (some x4)) fun v16 =>
 gW v14 false H (ak env true (limf env) (limt env 0) H (⟨0,69,Heap.gen H 0 69,0⟩:Ref) (some (.fn (.func 39) [] [])) [v16]) fun v17 H1 =>
 gW v14 false H1 (ak env true (limf env) (limt env 0) H1 (⟨0,70,Heap.gen H1 0 70,0⟩:Ref) (some (.fn (.func 69) [] [])) [v15,v17]) fun v18 H2 =>
 gQ v14 false (qUn env.P .not (some v18)) fun v19 =>
 doQ (aY (some v14) (some (.v (.bool true))) (some v19)) fun v20 =>
 br (some v20) (
 doQ (bu env.P 71 (some [])) fun v21 =>
 doW (aw env.P H2 71 (some x4) (some v21)) fun v22 H3 =>
 doQ (aE env.P H3 x4 71) fun v23 =>
 Q v23 H3) (
 doQ (an env.P (Heap.get H2) 71 (some x4)) fun v21 =>
 doW (aw env.P H2 71 (some x4) (some v21)) fun v22 H3 =>
 doQ (aE env.P H3 x4 71) fun v23 =>
 Q v23 H3))
theorem uA:dW=fun g x39 x4 x37 x5 x1 x38 H Q=>wp env Try.f58 none 0 oZ pb Q 500 (fk gN) (ofL g [(39,x39),(4,x4),(37,x37),(5,x5),(1,x1),(38,x38)]) H:=by kernel_rfl
theorem pG (x39 x4 x37 x5 x1 x38:AV) (H:Heap) (Q:AV→Heap→Prop) (h : ∀g,dW g x39 x4 x37 x5 x1 x38 H Q):GoL env Try.f58 0 gN [(39,x39),(4,x4),(37,x37),(5,x5),(1,x1),(38,x38)] H Q:=cQ fun g=>bg (by have h:=h g;rw [uA] at h;exact h)
end Go.Proofs.Ytmjkpdknicjjgaa
