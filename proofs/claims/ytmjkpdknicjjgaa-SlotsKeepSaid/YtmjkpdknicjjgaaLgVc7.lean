/-
  What is to be shown of each function, computed from its code. No statement of a seat is proved here.
-/
import Derived.Test.YtmjkpdknicjjgaaLgTy
set_option linter.unusedVariables false
set_option maxRecDepth 1000000
namespace Go.Proofs.Ytmjkpdknicjjgaa
open Go.Ab
noncomputable def me:Code:=(Try.f14.body).getD .skip
noncomputable def gR:List Item:=(bP 14 400 [.code me]).getD []
def sP:Nat→Option (List Nat):=fun i=>cond (Nat.beq i 14) (some [10,70,2,1,68,15,69]) (none)
def sZ:Nat→Bool:=fun i=>false
def dS (g:Nat→AV) (x0 x1 x2 x3 x4:AV) (H:Heap) (Q:AV→Heap→Prop):Prop :=
 doW (nRes H (⟨0,5,Heap.gen H 0 5,0⟩:Ref) (qBox env.P (⟨0,5,Heap.gen H 0 5,0⟩:Ref) 24 (some x0))) fun v1 H1 =>
 doW (nRes H1 (⟨0,9,Heap.gen H1 0 9,0⟩:Ref) (qBox env.P (⟨0,9,Heap.gen H1 0 9,0⟩:Ref) 48 (some x4))) fun v2 H2 =>
 doW (nRes H2 (⟨0,10,Heap.gen H2 0 10,0⟩:Ref) (bO env.P (⟨0,10,Heap.gen H2 0 10,0⟩:Ref) 24)) fun v3 H3 =>
 doQ (an env.P (Heap.get H3) 24 (some v1)) fun v4 =>
 doW (ak env true (limf env) (limt env 0) H3 (⟨0,19,Heap.gen H3 0 19,0⟩:Ref) (some (.fn (.func 29) [] [])) [v4]) fun v5 H4 =>
 doQ (qBin env.P .neq 25 (.tmp 20) (.const (.int .i64 0)) (some v5) (some (.v (.int .i64 0)))) fun v6 =>
 br (some v6) (
 doQ (bu env.P 24 (some [])) fun v7 =>
 doW (aw env.P H4 24 (some v3) (some v7)) fun v8 H5 =>
 doQ (aE env.P H5 v3 24) fun v9 =>
 Q (.tup [v9,(.v (.int .i64 0)),v5]) H5) (
 doQ (ab env.P 24 (some v1) 1) fun v7 =>
 doQ (an env.P (Heap.get H4) 3 (some v7)) fun v8 =>
 doQ (qBin env.P .geq 3 (.tmp 25) (.const (.int .i64 1)) (some v8) (some (.v (.int .i64 1)))) fun v9 =>
 gQ v9 true (qVal (some x3)) fun v10 =>
 gQ v9 true (qBin env.P .geq 3 (.tmp 28) (.const (.int .i64 1)) (some v10) (some (.v (.int .i64 1)))) fun v11 =>
 doQ (aY (some v9) (some v11) (some (.v (.bool false)))) fun v12 =>
 gQ v12 true (qVal (some x3)) fun v13 =>
 gQ v12 true (qBin env.P .lss 3 (.tmp 32) (.const (.int .i64 16777216)) (some v13) (some (.v (.int .i64 16777216)))) fun v14 =>
 doQ (aY (some v12) (some v14) (some (.v (.bool false)))) fun v15 =>
 doW (ak env true (limf env) (limt env 0) H4 (⟨0,36,Heap.gen H4 0 36,0⟩:Ref) (some (.fn (.func 32) [] [])) [x1,(.v (.int .i64 2))]) fun v16 H5 =>
 doQ (qUn env.P .not (some v16)) fun v17 =>
 gQ v17 false (qVal (some x2)) fun v18 =>
 gW v17 false H5 (ak env true (limf env) (limt env 0) H5 (⟨0,40,Heap.gen H5 0 40,0⟩:Ref) (some (.fn (.func 32) [] [])) [v18,(.v (.int .i64 2048))]) fun v19 H6 =>
 gQ v17 false (qUn env.P .not (some v19)) fun v20 =>
 doQ (aY (some v17) (some (.v (.bool true))) (some v20)) fun v21 =>
 gQ v21 false (qVal (some v15)) fun v22 =>
 gQ v21 false (qUn env.P .not (some v22)) fun v23 =>
 doQ (aY (some v21) (some (.v (.bool true))) (some v23)) fun v24 =>
 br (some v24) (
 doQ (bu env.P 24 (some [])) fun v25 =>
 doW (aw env.P H6 24 (some v3) (some v25)) fun v26 H7 =>
 doQ (aE env.P H7 v3 24) fun v27 =>
 Q (.tup [v27,(.v (.int .i64 0)),(.v (.int .i64 2))]) H7) (
 doQ (an env.P (Heap.get H6) 48 (some v2)) fun v25 =>
 doQ (ab env.P 24 (some v1) 1) fun v26 =>
 doQ (an env.P (Heap.get H6) 3 (some v26)) fun v27 =>
 doW (ak env true (limf env) (limt env 0) H6 (⟨0,53,Heap.gen H6 0 53,0⟩:Ref) (some (.fn (.func 33) [] [])) [v25,v27,x3]) fun v28 H7 =>
 doQ (ao (some v28) 0) fun v29 =>
 doQ (ao (some v28) 1) fun v30 =>
 doQ (qBin env.P .neq 25 (.tmp 56) (.const (.int .i64 0)) (some v30) (some (.v (.int .i64 0)))) fun v31 =>
 br (some v31) (
 doQ (bu env.P 24 (some [])) fun v32 =>
 doW (aw env.P H7 24 (some v3) (some v32)) fun v33 H8 =>
 doQ (aE env.P H8 v3 24) fun v34 =>
 Q (.tup [v34,(.v (.int .i64 0)),v30]) H8) (
 doQ (ay env.P false (Heap.get H7) (⟨0,62,Heap.gen H7 0 62,0⟩:Ref) .len #[79] [v29]) fun v32 =>
 doQ (qBin env.P .add 3 (.tmp 60) (.tmp 62) (some x2) (some v32)) fun v33 =>
 doQ (qBin env.P .gtr 3 (.tmp 63) (.const (.int .i64 2048)) (some v33) (some (.v (.int .i64 2048)))) fun v34 =>
 br (some v34) (
 doQ (bu env.P 24 (some [])) fun v35 =>
 doW (aw env.P H7 24 (some v3) (some v35)) fun v36 H8 =>
 doQ (aE env.P H8 v3 24) fun v37 =>
 Q (.tup [v37,(.v (.int .i64 0)),(.v (.int .i64 9))]) H8) (
 doQ (an env.P (Heap.get H7) 24 (some v1)) fun v35 =>
 doW (ak env true (limf env) (limt env 0) H7 (⟨0,67,Heap.gen H7 0 67,0⟩:Ref) (some (.fn (.func 30) [] [])) [v35]) fun v36 H8 =>
 doW (aw env.P H8 24 (some v3) (some v36)) fun v37 H9 =>
 doQ (
  ay env.P false (Heap.get H9) (⟨0,69,Heap.gen H9 0 69,0⟩:Ref) .len #[79] [v29]) fun v38 =>
  GoL env Try.f14 0 gR [(10,v3),(70,(.v (.int .i64 0))),(2,x2),(1,x1),(68,v29),(15,v29),(69,v38)] H9 Q))))
theorem zj:dS=fun g x0 x1 x2 x3 x4 H Q=>wp env Try.f14 none 0 sP sZ Q 500 [.code me] (ofL g [(0,x0),(1,x1),(2,x2),(3,x3),(4,x4)]) H:=by kernel_rfl
theorem zG (x0 x1 x2 x3 x4:AV) (H:Heap) (Q:AV→Heap→Prop) (h : ∀g,dS g x0 x1 x2 x3 x4 H Q):GoL env Try.f14 0 [.code me] [(0,x0),(1,x1),(2,x2),(3,x3),(4,x4)] H Q:=⟨fun g=>bg (by have h:=h g;rw [zj] at h;exact h)⟩
def dA (g:Nat→AV) (x10 x70 x2 x1 x68 x15 x69:AV) (H:Heap) (Q:AV→Heap→Prop):Prop :=
 doQ (qBin env.P .lss 3 (.tmp 70) (.tmp 69) (some x70) (some x69)) fun v1 =>
 br (some v1) (
 doQ (au env.P (Heap.get H) 79 (some x68) (some x70)) fun v2 =>
 doQ (an env.P (Heap.get H) 68 (some v2)) fun v3 =>
 doQ (an env.P (Heap.get H) 24 (some x10)) fun v4 =>
 doQ (qBin env.P .mul 3 (.tmp 77) (.const (.int .i64 2048)) (some x1) (some (.v (.int .i64 2048)))) fun v5 =>
 doQ (qBin env.P .add 3 (.tmp 78) (.tmp 79) (some v5) (some x2)) fun v6 =>
 doQ (qBin env.P .add 3 (.tmp 80) (.tmp 81) (some v6) (some x70)) fun v7 =>
 doW (ak env true (limf env) (limt env 0) H (⟨0,84,Heap.gen H 0 84,0⟩:Ref) (some (.fn (.func 27) [] [])) [v4,v7,v3]) fun v8 H1 =>
 doQ (ao (some v8) 0) fun v9 =>
 doQ (ao (some v8) 1) fun v10 =>
 doW (aw env.P H1 24 (some x10) (some v9)) fun v11 H2 =>
 doQ (qBin env.P .neq 25 (.tmp 87) (.const (.int .i64 0)) (some v10) (some (.v (.int .i64 0)))) fun v12 =>
 br (some v12) (
 doQ (bu env.P 24 (some [])) fun v13 =>
 doW (aw env.P H2 24 (some x10) (some v13)) fun v14 H3 =>
 doQ (aE env.P H3 x10 24) fun v15 =>
 Q (.tup [v15,(.v (.int .i64 0)),v10]) H3) (
 doQ (qBin env.P .add 3 (.tmp 70) (.const (.int .i64 1)) (some x70) (some (.v (.int .i64 1)))) fun v13 =>
  GoL env Try.f14 0 gR [(10,x10),(70,v13),(2,x2),(1,x1),(68,x68),(15,x15),(69,x69)] H2 Q)) (
 doQ (an env.P (Heap.get H) 24 (some x10)) fun v2 =>
 doQ (ay env.P false (Heap.get H) (⟨0,95,Heap.gen H 0 95,0⟩:Ref) .len #[79] [x15]) fun v3 =>
 doQ (qBin env.P .add 3 (.tmp 93) (.tmp 95) (some x2) (some v3)) fun v4 =>
 doW (aw env.P H 24 (some x10) (some v2)) fun v5 H1 =>
 doQ (aE env.P H1 x10 24) fun v6 =>
 Q (.tup [v6,v4,(.v (.int .i64 0))]) H1)
theorem uI:dA=fun g x10 x70 x2 x1 x68 x15 x69 H Q=>wp env Try.f14 none 0 sP sZ Q 500 (fk gR) (ofL g [(10,x10),(70,x70),(2,x2),(1,x1),(68,x68),(15,x15),(69,x69)]) H:=by kernel_rfl
theorem eG (x10 x70 x2 x1 x68 x15 x69:AV) (H:Heap) (Q:AV→Heap→Prop) (h : ∀g,dA g x10 x70 x2 x1 x68 x15 x69 H Q):GoL env Try.f14 0 gR [(10,x10),(70,x70),(2,x2),(1,x1),(68,x68),(15,x15),(69,x69)] H Q:=cQ fun g=>bg (by have h:=h g;rw [uI] at h;exact h)
noncomputable def pt:Code:=(Try.f15.body).getD .skip
noncomputable def jQ:List Item:=(bP 6 400 [.code pt]).getD []
def wz:Nat→Option (List Nat):=fun i=>cond (Nat.beq i 6) (some [9,8,2,1,4,3]) (none)
def wO:Nat→Bool:=fun i=>false
def r9 (g:Nat→AV) (x0 x1 x2 x3:AV) (H:Heap) (Q:AV→Heap→Prop):Prop :=
 doW (nRes H (⟨0,4,Heap.gen H 0 4,0⟩:Ref) (qBox env.P (⟨0,4,Heap.gen H 0 4,0⟩:Ref) 24 (some x0))) fun v1 H1 =>
 doQ (an env.P (Heap.get H1) 24 (some v1)) fun v2 =>
 doW (ak env true (limf env) (limt env 0) H1 (⟨0,15,Heap.gen H1 0 15,0⟩:Ref) (some (.fn (.func 29) [] [])) [v2]) fun v3 H2 =>
 doQ (qBin env.P .neq 25 (.tmp 16) (.const (.int .i64 0)) (some v3) (some (.v (.int .i64 0)))) fun v4 =>
 br (some v4) (
 Q (.tup [(.v (.slice none 0 0)),(.v (.int .i64 0)),v3]) H2) (
 doW (ak env true (limf env) (limt env 0) H2 (⟨0,20,Heap.gen H2 0 20,0⟩:Ref) (some (.fn (.func 32) [] [])) [x1,(.v (.int .i64 2))]) fun v5 H3 =>
 doQ (qUn env.P .not (some v5)) fun v6 =>
 gQ v6 false (qVal (some x2)) fun v7 =>
 gW v6 false H3 (ak env true (limf env) (limt env 0) H3 (⟨0,24,Heap.gen H3 0 24,0⟩:Ref) (some (.fn (.func 32) [] [])) [v7,(.v (.int .i64 16777215))]) fun v8 H4 =>
 gQ v6 false (qUn env.P .not (some v8)) fun v9 =>
 doQ (aY (some v6) (some (.v (.bool true))) (some v9)) fun v10 =>
 gQ v10 false (qVal (some x3)) fun v11 =>
 gW v10 false H4 (ak env true (limf env) (limt env 0) H4 (⟨0,29,Heap.gen H4 0 29,0⟩:Ref) (some (.fn (.func 32) [] [])) [v11,(.v (.int .i64 16777215))]) fun v12 H5 =>
 gQ v10 false (qUn env.P .not (some v12)) fun v13 =>
 doQ (aY (some v10) (some (.v (.bool true))) (some v13)) fun v14 =>
 br (some v14) (
 Q (
  .tup [(.v (.slice none 0 0)),(.v (.int .i64 0)),(.v (.int .i64 2))]) H5) (
  GoL env Try.f15 0 jQ [(9,(.v (.int .i64 0))),(8,(.v (.slice none 0 0))),(2,x2),(1,x1),(4,v1),(3,x3)] H5 Q))
theorem CK:r9=fun g x0 x1 x2 x3 H Q=>wp env Try.f15 none 0 wz wO Q 500 [.code pt] (ofL g [(0,x0),(1,x1),(2,x2),(3,x3)]) H:=by kernel_rfl
theorem CS (x0 x1 x2 x3:AV) (H:Heap) (Q:AV→Heap→Prop) (h : ∀g,r9 g x0 x1 x2 x3 H Q):GoL env Try.f15 0 [.code pt] [(0,x0),(1,x1),(2,x2),(3,x3)] H Q:=⟨fun g=>bg (by have h:=h g;rw [CK] at h;exact h)⟩
def eu (g:Nat→AV) (x9 x8 x2 x1 x4 x3:AV) (H:Heap) (Q:AV→Heap→Prop):Prop :=
 doQ (ay env.P false (Heap.get H) (⟨0,33,Heap.gen H 0 33,0⟩:Ref) .len #[50] [x8]) fun v1 =>
 doQ (qBin env.P .lss 3 (.tmp 33) (.tmp 34) (some v1) (some x3)) fun v2 =>
 br (some v2) (
 doQ (an env.P (Heap.get H) 24 (some x4)) fun v3 =>
 doQ (ay env.P false (Heap.get H) (⟨0,42,Heap.gen H 0 42,0⟩:Ref) .len #[50] [x8]) fun v4 =>
 doQ (qBin env.P .add 3 (.tmp 40) (.tmp 42) (some x2) (some v4)) fun v5 =>
 doQ (qBin env.P .add 3 (.tmp 43) (.const (.int .i64 1)) (some v5) (some (.v (.int .i64 1)))) fun v6 =>
 doW (ak env true (limf env) (limt env 0) H (⟨0,45,Heap.gen H 0 45,0⟩:Ref) (some (.fn (.func 34) [] [])) [v3,x1,x9,v6]) fun v7 H1 =>
 doQ (ao (some v7) 0) fun v8 =>
 doQ (ao (some v7) 1) fun v9 =>
 doW (nRes H1 (⟨0,12,Heap.gen H1 0 12,0⟩:Ref) (bO env.P (⟨0,12,Heap.gen H1 0 12,0⟩:Ref) 48)) fun v10 H2 =>
 doW (aw env.P H2 48 (some v10) (some v8)) fun v11 H3 =>
 doQ (qBin env.P .eql 3 (.tmp 48) (.const (.int .i64 0)) (some v9) (some (.v (.int .i64 0)))) fun v12 =>
 br (some v12) (
 Q (.tup [x8,x9,(.v (.int .i64 0))]) H3) (
 doQ (an env.P (Heap.get H3) 48 (some v10)) fun v13 =>
 doW (fX env.P false true H3 (⟨0,52,Heap.gen H3 0 52,0⟩:Ref) 50 1 (some [(0,v13)])) fun v14 H4 =>
 doW (bQ env.P true H4 (⟨0,53,Heap.gen H4 0 53,0⟩:Ref) (some 50) (some 50) x8 v14) fun v15 H5 =>
 doQ (qBin env.P .add 3 (.tmp 54) (.tmp 55) (some x9) (some v9)) fun v16 =>
  GoL env Try.f15 0 jQ [(9,v16),(8,v15),(2,x2),(1,x1),(4,x4),(3,x3)] H5 Q)) (
 Q (.tup [x8,x9,(.v (.int .i64 0))]) H)
theorem zi:eu=fun g x9 x8 x2 x1 x4 x3 H Q=>wp env Try.f15 none 0 wz wO Q 500 (fk jQ) (ofL g [(9,x9),(8,x8),(2,x2),(1,x1),(4,x4),(3,x3)]) H:=by kernel_rfl
theorem zF (x9 x8 x2 x1 x4 x3:AV) (H:Heap) (Q:AV→Heap→Prop) (h : ∀g,eu g x9 x8 x2 x1 x4 x3 H Q):GoL env Try.f15 0 jQ [(9,x9),(8,x8),(2,x2),(1,x1),(4,x4),(3,x3)] H Q:=cQ fun g=>bg (by have h:=h g;rw [zi] at h;exact h)
noncomputable def rV:Code:=(Try.f32.body).getD .skip
def Dx:Nat→Option (List Nat):=fun i=>none
def DZ:Nat→Bool:=fun i=>false
def r8 (g:Nat→AV) (x0 x1:AV) (H:Heap) (Q:AV→Heap→Prop):Prop :=
 doQ (qBin env.P .geq 3 (.tmp 5) (.const (.int .i64 0)) (some x0) (some (.v (.int .i64 0)))) fun v1 =>
 gQ v1 true (qVal (some x0)) fun v2 =>
 gQ v1 true (qVal (some x1)) fun v3 =>
 gQ v1 true (qBin env.P .leq 3 (.tmp 8) (.tmp 9) (some v2) (some v3)) fun v4 =>
 doQ (aY (some v1) (some v4) (some (.v (.bool false)))) fun v5 =>
 Q v5 H
theorem CJ:r8=fun g x0 x1 H Q=>wp env Try.f32 none 0 Dx DZ Q 500 [.code rV] (ofL g [(0,x0),(1,x1)]) H:=by kernel_rfl
theorem CR (x0 x1:AV) (H:Heap) (Q:AV→Heap→Prop) (h : ∀g,r8 g x0 x1 H Q):GoL env Try.f32 0 [.code rV] [(0,x0),(1,x1)] H Q:=⟨fun g=>bg (by have h:=h g;rw [CJ] at h;exact h)⟩
noncomputable def ni:Code:=(Try.f34.body).getD .skip
noncomputable def iV:List Item:=(bP 9 400 [.code ni]).getD []
def uf:Nat→Option (List Nat):=fun i=>cond (Nat.beq i 9) (some [53,14,2,1,4,8,12,52]) (none)
def ur:Nat→Bool:=fun i=>false
def iC (g:Nat→AV) (x0 x1 x2 x3:AV) (H:Heap) (Q:AV→Heap→Prop):Prop :=
 doW (nRes H (⟨0,4,Heap.gen H 0 4,0⟩:Ref) (qBox env.P (⟨0,4,Heap.gen H 0 4,0⟩:Ref) 24 (some x0))) fun v1 H1 =>
 doW (nRes H1 (⟨0,8,Heap.gen H1 0 8,0⟩:Ref) (bO env.P (⟨0,8,Heap.gen H1 0 8,0⟩:Ref) 48)) fun v2 H2 =>
 doQ (qBin env.P .geq 3 (.tmp 18) (.const (.int .i64 2048)) (some x2) (some (.v (.int .i64 2048)))) fun v3 =>
 br (some v3) (
 doQ (an env.P (Heap.get H2) 48 (some v2)) fun v4 =>
 doW (aw env.P H2 48 (some v2) (some v4)) fun v5 H3 =>
 doQ (aE env.P H3 v2 48) fun v6 =>
 Q (.tup [v6,(.v (.int .i64 0))]) H3) (
 doQ (an env.P (Heap.get H2) 24 (some v1)) fun v4 =>
 doQ (qBin env.P .mul 3 (.tmp 23) (.const (.int .i64 2048)) (some x1) (some (.v (.int .i64 2048)))) fun v5 =>
 doQ (qBin env.P .add 3 (.tmp 24) (.tmp 25) (some v5) (some x2)) fun v6 =>
 doW (ak env true (limf env) (limt env 0) H2 (⟨0,27,Heap.gen H2 0 27,0⟩:Ref) (some (.fn (.func 49) [] [])) [v4,v6]) fun v7 H3 =>
 doQ (ao (some v7) 0) fun v8 =>
 doQ (ao (some v7) 1) fun v9 =>
 doW (ak env true (limf env) (limt env 0) H3 (⟨0,32,Heap.gen H3 0 32,0⟩:Ref) (some (.fn (.func 50) [] [])) [v8]) fun v10 H4 =>
 doQ (ao (some v10) 0) fun v11 =>
 doQ (ao (some v10) 1) fun v12 =>
 doW (nRes H4 (⟨0,12,Heap.gen H4 0 12,0⟩:Ref) (bO env.P (⟨0,12,Heap.gen H4 0 12,0⟩:Ref) 103)) fun v13 H5 =>
 doW (aw env.P H5 103 (some v13) (some v11)) fun v14 H6 =>
 doQ (qBin env.P .neq 25 (.tmp 35) (.const (.int .i64 0)) (some v12) (some (.v (.int .i64 0)))) fun v15 =>
 gQ v15 false (ab env.P 103 (some v13) 1) fun v16 =>
 gQ v15 false (an env.P (Heap.get H6) 3 (some v16)) fun v17 =>
 gQ v15 false (qVal (some x3)) fun v18 =>
 gQ v15 false (qBin env.P .neq 3 (.tmp 39) (.tmp 40) (some v17) (some v18)) fun v19 =>
 doQ (aY (some v15) (some (.v (.bool true))) (some v19)) fun v20 =>
 gQ v20 false (qVal (some x2)) fun v21 =>
 gQ v20 false (ab env.P 103 (some v13) 3) fun v22 =>
 gQ v20 false (an env.P (Heap.get H6) 3 (some v22)) fun v23 =>
 gQ v20 false (qBin env.P .add 3 (.tmp 44) (.tmp 46) (some v21) (some v23)) fun v24 =>
 gQ v20 false (qBin env.P .gtr 3 (.tmp 47) (.const (.int .i64 2048)) (some v24) (some (.v (.int .i64 2048)))) fun v25 =>
 doQ (aY (some v20) (some (.v (.bool true))) (some v25)) fun v26 =>
 br (some v26) (
 doQ (an env.P (Heap.get H6) 48 (some v2)) fun v27 =>
 doW (aw env.P H6 48 (some v2) (some v27)) fun v28 H7 =>
 doQ (aE env.P H7 v2 48) fun v29 =>
 Q (.tup [v29,(.v (.int .i64 0))]) H7) (
 doQ (ab env.P 103 (some v13) 3) fun v27 =>
 doQ (an env.P (Heap.get H6) 3 (some v27)) fun v28 =>
  GoL env Try.f34 0 iV [(53,(.v (.int .i64 0))),(14,(.v (.slice none 0 0))),(2,x2),(1,x1),(4,v1),(8,v2),(12,v13),(52,v28)] H6 Q))
theorem AX:iC=fun g x0 x1 x2 x3 H Q=>wp env Try.f34 none 0 uf ur Q 500 [.code ni] (ofL g [(0,x0),(1,x1),(2,x2),(3,x3)]) H:=by kernel_rfl
theorem Bg (x0 x1 x2 x3:AV) (H:Heap) (Q:AV→Heap→Prop) (h : ∀g,iC g x0 x1 x2 x3 H Q):GoL env Try.f34 0 [.code ni] [(0,x0),(1,x1),(2,x2),(3,x3)] H Q:=⟨fun g=>bg (by have h:=h g;rw [AX] at h;exact h)⟩
def fN (g:Nat→AV) (x53 x14 x2 x1 x4 x8 x12 x52:AV) (H:Heap) (Q:AV→Heap→Prop):Prop :=
 doQ (qBin env.P .lss 3 (.tmp 53) (.tmp 52) (some x53) (some x52)) fun v1 =>
 br (some v1) (
 doQ (an env.P (Heap.get H) 24 (some x4)) fun v2 =>
 doQ (qBin env.P .mul 3 (.tmp 58) (.const (.int .i64 2048)) (some x1) (some (.v (.int .i64 2048)))) fun v3 =>
 doQ (qBin env.P .add 3 (.tmp 59) (.tmp 60) (some v3) (some x2)) fun v4 =>
 doQ (qBin env.P .add 3 (.tmp 61) (.tmp 62) (some v4) (some x53)) fun v5 =>
 doW (ak env true (limf env) (limt env 0) H (⟨0,64,Heap.gen H 0 64,0⟩:Ref) (some (.fn (.func 49) [] [])) [v2,v5]) fun v6 H1 =>
 doQ (ao (some v6) 0) fun v7 =>
 doQ (ao (some v6) 1) fun v8 =>
 doW (fX env.P false true H1 (⟨0,69,Heap.gen H1 0 69,0⟩:Ref) 79 1 (some [(0,v7)])) fun v9 H2 =>
 doW (bQ env.P true H2 (⟨0,70,Heap.gen H2 0 70,0⟩:Ref) (some 79) (some 79) x14 v9) fun v10 H3 =>
 doQ (qBin env.P .add 3 (.tmp 53) (.const (.int .i64 1)) (some x53) (some (.v (.int .i64 1)))) fun v11 =>
  GoL env Try.f34 0 iV [(53,v11),(14,v10),(2,x2),(1,x1),(4,x4),(8,x8),(12,x12),(52,x52)] H3 Q) (
 doW (ak env true (limf env) (limt env 0) H (⟨0,74,Heap.gen H 0 74,0⟩:Ref) (some (.fn (.func 51) [] [])) [x14]) fun v2 H1 =>
 doQ (ao (some v2) 0) fun v3 =>
 doQ (ao (some v2) 1) fun v4 =>
 doQ (ao (some v2) 2) fun v5 =>
 doW (aw env.P H1 48 (some x8) (some v3)) fun v6 H2 =>
 doQ (qBin env.P .neq 25 (.tmp 78) (.const (.int .i64 0)) (some v5) (some (.v (.int .i64 0)))) fun v7 =>
 br (some v7) (
 doQ (bu env.P 48 (some [])) fun v8 =>
 doW (aw env.P H2 48 (some x8) (some v8)) fun v9 H3 =>
 doQ (aE env.P H3 x8 48) fun v10 =>
 Q (.tup [v10,(.v (.int .i64 0))]) H3) (
 doQ (an env.P (Heap.get H2) 48 (some x8)) fun v8 =>
 doQ (ab env.P 103 (some x12) 3) fun v9 =>
 doQ (an env.P (Heap.get H2) 3 (some v9)) fun v10 =>
 doW (aw env.P H2 48 (some x8) (some v8)) fun v11 H3 =>
  oJ [(v9,x8)] [x8] [] H3 ∧
 (doQ (aE env.P H3 x8 48) fun v12 =>
 Q (.tup [v12,v10]) H3)))
theorem xk:fN=fun g x53 x14 x2 x1 x4 x8 x12 x52 H Q=>wp env Try.f34 none 0 uf ur Q 500 (fk iV) (ofL g [(53,x53),(14,x14),(2,x2),(1,x1),(4,x4),(8,x8),(12,x12),(52,x52)]) H:=by kernel_rfl
theorem rg (x53 x14 x2 x1 x4 x8 x12 x52:AV) (H:Heap) (Q:AV→Heap→Prop) (h : ∀g,fN g x53 x14 x2 x1 x4 x8 x12 x52 H Q):GoL env Try.f34 0 iV [(53,x53),(14,x14),(2,x2),(1,x1),(4,x4),(8,x8),(12,x12),(52,x52)] H Q:=cQ fun g=>bg (by have h:=h g;rw [xk] at h;exact h)
noncomputable def eV:Code:=(Try.f18.body).getD .skip
noncomputable def dq:List Item:=(bP 2 400 [.code eV]).getD []
def jL:Nat→Option (List Nat):=fun i=>cond (Nat.beq i 2) (some [5,0,1]) (none)
def jW:Nat→Bool:=fun i=>false
def kb (g:Nat→AV) (x0 x1:AV) (H:Heap) (Q:AV→Heap→Prop):Prop :=
 GoL env Try.f18 0 dq [(5,(.v (.int .i64 0))),(0,x0),(1,x1)] H Q
theorem oM:kb=fun g x0 x1 H Q=>wp env Try.f18 none 0 jL jW Q 500 [.code eV] (ofL g [(0,x0),(1,x1)]) H:=by kernel_rfl
theorem oR (x0 x1:AV) (H:Heap) (Q:AV→Heap→Prop) (h : ∀g,kb g x0 x1 H Q):GoL env Try.f18 0 [.code eV] [(0,x0),(1,x1)] H Q:=⟨fun g=>bg (by have h:=h g;rw [oM] at h;exact h)⟩
def cL (g:Nat→AV) (x5 x0 x1:AV) (H:Heap) (Q:AV→Heap→Prop):Prop :=
 doQ (ay env.P false (Heap.get H) (⟨0,8,Heap.gen H 0 8,0⟩:Ref) .len #[50] [x0]) fun v1 =>
 doQ (qBin env.P .lss 3 (.tmp 6) (.tmp 8) (some x5) (some v1)) fun v2 =>
 gQ v2 true (qVal (some x5)) fun v3 =>
 gQ v2 true (qBin env.P .lss 3 (.tmp 11) (.const (.int .i64 200)) (some v3) (some (.v (.int .i64 200)))) fun v4 =>
 doQ (aY (some v2) (some v4) (some (.v (.bool false)))) fun v5 =>
 br (some v5) (
 doQ (au env.P (Heap.get H) 50 (some x0) (some x5)) fun v6 =>
 doQ (ab env.P 48 (some v6) 2) fun v7 =>
 doQ (ab env.P 42 (some v7) 6) fun v8 =>
 doQ (an env.P (Heap.get H) 40 (some v8)) fun v9 =>
 doQ (ay env.P false (Heap.get H) (⟨0,22,Heap.gen H 0 22,0⟩:Ref) .len #[40] [v9]) fun v10 =>
 doQ (qBin env.P .gtr 3 (.tmp 22) (.const (.int .i64 200)) (some v10) (some (.v (.int .i64 200)))) fun v11 =>
 br (some v11) (
 Q (.v (.bool true)) H) (
 doQ (qBin env.P .add 3 (.tmp 14) (.const (.int .i64 1)) (some x5) (some (.v (.int .i64 1)))) fun v12 =>
  GoL env Try.f18 0 dq [(5,v12),(0,x0),(1,x1)] H Q)) (
 doQ (ay env.P false (Heap.get H) (⟨0,25,Heap.gen H 0 25,0⟩:Ref) .len #[50] [x0]) fun v6 =>
 doQ (qBin env.P .gtr 3 (.tmp 25) (.tmp 26) (some v6) (some x1)) fun v7 =>
 Q v7 H)
theorem nv:cL=fun g x5 x0 x1 H Q=>wp env Try.f18 none 0 jL jW Q 500 (fk dq) (ofL g [(5,x5),(0,x0),(1,x1)]) H:=by kernel_rfl
theorem iQ (x5 x0 x1:AV) (H:Heap) (Q:AV→Heap→Prop) (h : ∀g,cL g x5 x0 x1 H Q):GoL env Try.f18 0 dq [(5,x5),(0,x0),(1,x1)] H Q:=cQ fun g=>bg (by have h:=h g;rw [nv] at h;exact h)
noncomputable def dZ:Code:=(Try.f19.body).getD .skip
noncomputable def cP:List Item:=(bP 4 400 [.code dZ]).getD []
def iJ:Nat→Option (List Nat):=fun i=>cond (Nat.beq i 4) (some [5,1,0]) (none)
def iK:Nat→Bool:=fun i=>false
def eb (g:Nat→AV) (x0 x1:AV) (H:Heap) (Q:AV→Heap→Prop):Prop :=
 doQ (ay env.P false (Heap.get H) (⟨0,7,Heap.gen H 0 7,0⟩:Ref) .len #[50] [x0]) fun v1 =>
 doQ (ay env.P false (Heap.get H) (⟨0,9,Heap.gen H 0 9,0⟩:Ref) .len #[50] [x1]) fun v2 =>
 doQ (qBin env.P .neq 3 (.tmp 7) (.tmp 9) (some v1) (some v2)) fun v3 =>
 br (some v3) (
 Q (.v (.bool false)) H) (
  GoL env Try.f19 0 cP [(5,(.v (.int .i64 0))),(1,x1),(0,x0)] H Q)
theorem mT:eb=fun g x0 x1 H Q=>wp env Try.f19 none 0 iJ iK Q 500 [.code dZ] (ofL g [(0,x0),(1,x1)]) H:=by kernel_rfl
theorem mU (x0 x1:AV) (H:Heap) (Q:AV→Heap→Prop) (h : ∀g,eb g x0 x1 H Q):GoL env Try.f19 0 [.code dZ] [(0,x0),(1,x1)] H Q:=⟨fun g=>bg (by have h:=h g;rw [mT] at h;exact h)⟩
def cT (g:Nat→AV) (x5 x1 x0:AV) (H:Heap) (Q:AV→Heap→Prop):Prop :=
 doQ (ay env.P false (Heap.get H) (⟨0,13,Heap.gen H 0 13,0⟩:Ref) .len #[50] [x0]) fun v1 =>
 doQ (qBin env.P .lss 3 (.tmp 11) (.tmp 13) (some x5) (some v1)) fun v2 =>
 br (some v2) (
 doQ (au env.P (Heap.get H) 50 (some x0) (some x5)) fun v3 =>
 doQ (an env.P (Heap.get H) 48 (some v3)) fun v4 =>
 doQ (au env.P (Heap.get H) 50 (some x1) (some x5)) fun v5 =>
 doQ (an env.P (Heap.get H) 48 (some v5)) fun v6 =>
 doW (ak env false (limf env) (limt env 0) H (⟨0,25,Heap.gen H 0 25,0⟩:Ref) (some (.fn (.func 35) [] [])) [v4,v6]) fun v7 H1 =>
 doQ (qUn env.P .not (some v7)) fun v8 =>
 br (some v8) (
 Q (.v (.bool false)) H1) (
 doQ (qBin env.P .add 3 (.tmp 15) (.const (.int .i64 1)) (some x5) (some (.v (.int .i64 1)))) fun v9 =>
  GoL env Try.f19 0 cP [(5,v9),(1,x1),(0,x0)] H1 Q)) (
 Q (.v (.bool true)) H)
theorem lU:cT=fun g x5 x1 x0 H Q=>wp env Try.f19 none 0 iJ iK Q 500 (fk cP) (ofL g [(5,x5),(1,x1),(0,x0)]) H:=by kernel_rfl
theorem hY (x5 x1 x0:AV) (H:Heap) (Q:AV→Heap→Prop) (h : ∀g,cT g x5 x1 x0 H Q):GoL env Try.f19 0 cP [(5,x5),(1,x1),(0,x0)] H Q:=cQ fun g=>bg (by have h:=h g;rw [lU] at h;exact h)
noncomputable def gC:Code:=(Try.f35.body).getD .skip
def o4:Nat→Option (List Nat):=fun i=>none
def pe:Nat→Bool:=fun i=>false
def cH (g:Nat→AV) (x0 x1:AV) (H:Heap) (Q:AV→Heap→Prop):Prop :=
 doW (nRes H (⟨0,2,Heap.gen H 0 2,0⟩:Ref) (qBox env.P (⟨0,2,Heap.gen H 0 2,0⟩:Ref) 48 (some x0))) fun v1 H1 =>
 doW (nRes H1 (⟨0,3,Heap.gen H1 0 3,0⟩:Ref) (qBox env.P (⟨0,3,Heap.gen H1 0 3,0⟩:Ref) 48 (some x1))) fun v2 H2 =>
 doQ (ab env.P 48 (some v1) 0) fun v3 =>
 doQ (an env.P (Heap.get H2) 5 (some v3)) fun v4 =>
 doQ (ab env.P 48 (some v2) 0) fun v5 =>
 doQ (an env.P (Heap.get H2) 5 (some v5)) fun v6 =>
 doQ (qBin env.P .eql 5 (.tmp 6) (.tmp 8) (some v4) (some v6)) fun v7 =>
 gQ v7 true (ab env.P 48 (some v1) 1) fun v8 =>
 gQ v7 true (an env.P (Heap.get H2) 3 (some v8)) fun v9 =>
 gQ v7 true (ab env.P 48 (some v2) 1) fun v10 =>
 gQ v7 true (an env.P (Heap.get H2) 3 (some v10)) fun v11 =>
 gQ v7 true (qBin env.P .eql 3 (.tmp 12) (.tmp 14) (some v9) (some v11)) fun v12 =>
 doQ (aY (some v7) (some v12) (some (.v (.bool false)))) fun v13 =>
 gQ v13 true (ab env.P 48 (some v1) 2) fun v14 =>
 gQ v13 true (an env.P (Heap.get H2) 42 (some v14)) fun v15 =>
 gQ v13 true (ab env.P 48 (some v2) 2) fun v16 =>
 gQ v13 true (an env.P (Heap.get H2) 42 (some v16)) fun v17 =>
 gW v13 true H2 (ak env true (limf env) (limt env 0) H2 (⟨0,22,Heap.gen H2 0 22,0⟩:Ref) (some (.fn (.func 52) [] [])) [v15,v17]) fun v18 H3 =>
 doQ (aY (some v13) (some v18) (some (.v (.bool false)))) fun v19 =>
 gQ v19 true (ab env.P 48 (some v1) 3) fun v20 =>
 gQ v19 true (an env.P (Heap.get H3) 25 (some v20)) fun v21 =>
 gQ v19 true (ab env.P 48 (some v2) 3) fun v22 =>
 gQ v19 true (an env.P (Heap.get H3) 25 (some v22)) fun v23 =>
 gQ v19 true (qBin env.P .eql 25 (.tmp 26) (.tmp 28) (some v21) (some v23)) fun v24 =>
 doQ (aY (some v19) (some v24) (some (.v (.bool false)))) fun v25 =>
 gQ v25 true (ab env.P 48 (some v1) 4) fun v26 =>
 gQ v25 true (an env.P (Heap.get H3) 46 (some v26)) fun v27 =>
 gQ v25 true (ab env.P 48 (some v2) 4) fun v28 =>
 gQ v25 true (an env.P (Heap.get H3) 46 (some v28)) fun v29 =>
 gQ v25 true (qBin env.P .eql 46 (.tmp 33) (.tmp 35) (some v27) (some v29)) fun v30 =>
 doQ (aY (some v25) (some v30) (some (.v (.bool false)))) fun v31 =>
 Q v31 H3
theorem oN:cH=fun g x0 x1 H Q=>wp env Try.f35 none 0 o4 pe Q 500 [.code gC] (ofL g [(0,x0),(1,x1)]) H:=by kernel_rfl
theorem oS (x0 x1:AV) (H:Heap) (Q:AV→Heap→Prop) (h : ∀g,cH g x0 x1 H Q):GoL env Try.f35 0 [.code gC] [(0,x0),(1,x1)] H Q:=⟨fun g=>bg (by have h:=h g;rw [oN] at h;exact h)⟩
end Go.Proofs.Ytmjkpdknicjjgaa
