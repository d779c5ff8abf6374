/-
  What is to be shown of each function, computed from its code. No statement of a seat is proved here.
-/
import Derived.Test.YtmjkpdknicjjgaaLgTy
set_option linter.unusedVariables false
set_option maxRecDepth 1000000
namespace Go.Proofs.Ytmjkpdknicjjgaa
open Go.Ab
noncomputable def bk:Code:=(Try.f42.body).getD .skip
def dL:Nat→Option (List Nat):=fun i=>none
def dN:Nat→Bool:=fun i=>false
def aK (dep:Nat) (g:Nat→AV) (x0 x1 x2:AV) (H:Heap) (Q:AV→Heap→Prop):Prop :=
 doQ (bK env.P (Heap.get H) 22 (some x0) (oi x1) (some none) (some none)) fun v1 =>
 doQ (ay env.P false (Heap.get H) (⟨(dep+1),14,Heap.gen H (dep+1) 14,0⟩:Ref) .len #[22] [x2]) fun v2 =>
 doQ (qBin env.P .eql 3 (.tmp 15) (.const (.int .i64 0)) (some v2) (some (.v (.int .i64 0)))) fun v3 =>
 br (some v3) (
 Q x0 H) (
 doQ (ay env.P false (Heap.get H) (⟨(dep+1),19,Heap.gen H (dep+1) 19,0⟩:Ref) .len #[22] [x0]) fun v4 =>
 doQ (qBin env.P .eql 3 (.tmp 20) (.tmp 21) (some x1) (some v4)) fun v5 =>
 br (some v5) (
 doW (bQ env.P true H (⟨(dep+1),25,Heap.gen H (dep+1) 25,0⟩:Ref) (some 22) (some 22) x0 x2) fun v6 H1 =>
 Q v6 H1) (
 doQ (qBin env.P .add 3 (.tmp 26) (.tmp 27) (some v4) (some v2)) fun v6 =>
 doQ (ay env.P false (Heap.get H) (⟨(dep+1),30,Heap.gen H (dep+1) 30,0⟩:Ref) .cap #[22] [x0]) fun v7 =>
 doQ (qBin env.P .gtr 3 (.tmp 28) (.tmp 30) (some v6) (some v7)) fun v8 =>
 br (some v8) (
 doQ (bK env.P (Heap.get H) 22 (some x0) (some none) (oi x1) (some none)) fun v9 =>
 doQ (qBin env.P .add 3 (.tmp 35) (.tmp 36) (some v4) (some v2)) fun v10 =>
 doQ (qBin env.P .sub 3 (.tmp 37) (.tmp 38) (some v10) (some x1)) fun v11 =>
 doW (bQ env.P true H (⟨(dep+1),40,Heap.gen H (dep+1) 40,0⟩:Ref) (some 22) (some 3) v9 v11) fun v12 H1 =>
 doQ (bK env.P (Heap.get H1) 22 (some v12) (oi x1) (some none) (some none)) fun v13 =>
 doW (tg env.P H1 (some 22) v13 x2) fun v14 H2 =>
 doQ (qBin env.P .add 3 (.tmp 47) (.tmp 48) (some x1) (some v2)) fun v15 =>
 doQ (bK env.P (Heap.get H2) 22 (some v12) (oi v15) (some none) (some none)) fun v16 =>
 doQ (bK env.P (Heap.get H2) 22 (some x0) (oi x1) (some none) (some none)) fun v17 =>
 doW (tg env.P H2 (some 22) v16 v17) fun v18 H3 =>
 Q v12 H3) (
 doQ (qBin env.P .add 3 (.tmp 57) (.tmp 58) (some v4) (some v2)) fun v9 =>
 doQ (bK env.P (Heap.get H) 22 (some x0) (some none) (oi v9) (some none)) fun v10 =>
 doQ (qBin env.P .add 3 (.tmp 63) (.tmp 64) (some x1) (some v2)) fun v11 =>
 doQ (bK env.P (Heap.get H) 22 (some v10) (oi v11) (some none) (some none)) fun v12 =>
 doW (ak env true (limf env) (limt env (dep+1)) H (⟨(dep+1),67,Heap.gen H (dep+1) 67,0⟩:Ref) (some (.fn (.func 62) [] [])) [x2,v12]) fun v13 H1 =>
 doQ (qUn env.P .not (some v13)) fun v14 =>
 br (some v14) (
 doQ (qBin env.P .add 3 (.tmp 70) (.tmp 71) (some x1) (some v2)) fun v15 =>
 doQ (bK env.P (Heap.get H1) 22 (some v10) (oi v15) (some none) (some none)) fun v16 =>
 doQ (bK env.P (Heap.get H1) 22 (some v10) (oi x1) (some none) (some none)) fun v17 =>
 doW (tg env.P H1 (some 22) v16 v17) fun v18 H2 =>
 doQ (bK env.P (Heap.get H2) 22 (some v10) (oi x1) (some none) (some none)) fun v19 =>
 doW (tg env.P H2 (some 22) v19 x2) fun v20 H3 =>
 Q v10 H3) (
 doQ (bK env.P (Heap.get H1) 22 (some v10) (oi v4) (some none) (some none)) fun v15 =>
 doW (tg env.P H1 (some 22) v15 x2) fun v16 H2 =>
 doQ (bK env.P (Heap.get H2) 22 (some v10) (oi x1) (some none) (some none)) fun v17 =>
 doW (ak env true (limf env) (limt env (dep+1)) H2 (⟨(dep+1),93,Heap.gen H2 (dep+1) 93,0⟩:Ref) (some (.fn (.func 63) [] [])) [v17,v2]) fun v18 H3 =>
 Q v10 H3))))
theorem dI (dep:Nat):aK dep=fun g x0 x1 x2 H Q=>wp env Try.f42 none (dep+1) dL dN Q 500 [.code bk] (ofL g [(0,x0),(1,x1),(2,x2)]) H:=by kernel_rfl
theorem dK (dep:Nat) (x0 x1 x2:AV) (H:Heap) (Q:AV→Heap→Prop) (h : ∀g,aK dep g x0 x1 x2 H Q):GoL env Try.f42 (dep+1) [.code bk] [(0,x0),(1,x1),(2,x2)] H Q:=⟨fun g=>bg (by have h:=h g;rw [dI] at h;exact h)⟩
noncomputable def rU:Code:=(Try.f73.body).getD .skip
def Dw:Nat→Option (List Nat):=fun i=>none
def DY:Nat→Bool:=fun i=>false
def fp (g:Nat→AV) (x0:AV) (H:Heap) (Q:AV→Heap→Prop):Prop :=
 doW (nRes H (⟨0,1,Heap.gen H 0 1,0⟩:Ref) (qBox env.P (⟨0,1,Heap.gen H 0 1,0⟩:Ref) 42 (some x0))) fun v1 H1 =>
 doQ (ab env.P 42 (some v1) 0) fun v2 =>
 doQ (an env.P (Heap.get H1) 5 (some v2)) fun v3 =>
 doQ (qBin env.P .eql 5 (.tmp 4) (.const (.int .u8 0)) (some v3) (some (a8 0))) fun v4 =>
 gQ v4 false (ab env.P 42 (some v1) 0) fun v5 =>
 gQ v4 false (an env.P (Heap.get H1) 5 (some v5)) fun v6 =>
 gQ v4 false (qBin env.P .geq 5 (.tmp 8) (.const (.int .u8 4)) (some v6) (some (a8 4))) fun v7 =>
 doQ (aY (some v4) (some (.v (.bool true))) (some v7)) fun v8 =>
 gQ v8 false (ab env.P 42 (some v1) 1) fun v9 =>
 gQ v8 false (an env.P (Heap.get H1) 35 (some v9)) fun v10 =>
 gW v8 false H1 (ak env false (limf env) (limt env 0) H1 (⟨0,14,Heap.gen H1 0 14,0⟩:Ref) (some (.fn (.func 71) [] [])) [v10]) fun v11 H2 =>
 gQ v8 false (qBin env.P .neq 25 (.tmp 14) (.const (.int .i64 0)) (some v11) (some (.v (.int .i64 0)))) fun v12 =>
 doQ (aY (some v8) (some (.v (.bool true))) (some v12)) fun v13 =>
 gQ v13 false (ab env.P 42 (some v1) 2) fun v14 =>
 gQ v13 false (an env.P (Heap.get H2) 3 (some v14)) fun v15 =>
 gQ v13 false (qBin env.P .lss 3 (.tmp 19) (.const (.int .i64 1)) (some v15) (some (.v (.int .i64 1)))) fun v16 =>
 doQ (aY (some v13) (some (.v (.bool true))) (some v16)) fun v17 =>
 gQ v17 false (ab env.P 42 (some v1) 2) fun v18 =>
 gQ v17 false (an env.P (Heap.get H2) 3 (some v18)) fun v19 =>
 gQ v17 false (qBin env.P .geq 3 (.tmp 24) (.const (.int .i64 16777216)) (some v19) (some (.v (.int .i64 16777216)))) fun v20 =>
 doQ (aY (some v17) (some (.v (.bool true))) (some v20)) fun v21 =>
 gQ v21 false (ab env.P 42 (some v1) 3) fun v22 =>
 gQ v21 false (an env.P (Heap.get H2) 39 (some v22)) fun v23 =>
 gW v21 false H2 (ak env false (limf env) (limt env 0) H2 (⟨0,30,Heap.gen H2 0 30,0⟩:Ref) (some (.fn (.func 86) [] [])) [v23]) fun v24 H3 =>
 gQ v21 false (qBin env.P .neq 25 (.tmp 30) (.const (.int .i64 0)) (some v24) (some (.v (.int .i64 0)))) fun v25 =>
 doQ (aY (some v21) (some (.v (.bool true))) (some v25)) fun v26 =>
 gW v26 false H3 (ak env false (limf env) (limt env 0) H3 (⟨0,34,Heap.gen H3 0 34,0⟩:Ref) (some (.fn (.func 87) [] [])) []) fun v27 H4 =>
 gQ v26 false (ab env.P 42 (some v1) 0) fun v28 =>
 gQ v26 false (an env.P (Heap.get H4) 5 (some v28)) fun v29 =>
 gQ v26 false (ri env.P 154 (some v27) (some v29)) fun v30 =>
 gQ v26 false (rj env.P 153 (some v30) 0) fun v31 =>
 gQ v26 false (an env.P (Heap.get H4) 42 (some v1)) fun v32 =>
 gW v26 false H4 (ak env true (limf env) (limt env 0) H4 (⟨0,40,Heap.gen H4 0 40,0⟩:Ref) (some v31) [v32]) fun v33 H5 =>
 gQ v26 false (qUn env.P .not (some v33)) fun v34 =>
 doQ (aY (some v26) (some (.v (.bool true))) (some v34)) fun v35 =>
 br (some v35) (
 Q (.v (.int .i64 8)) H5) (
 Q (.v (.int .i64 0)) H5)
theorem CI:fp=fun g x0 H Q=>wp env Try.f73 none 0 Dw DY Q 500 [.code rU] (ofL g [(0,x0)]) H:=by kernel_rfl
theorem CQ (x0:AV) (H:Heap) (Q:AV→Heap→Prop) (h : ∀g,fp g x0 H Q):GoL env Try.f73 0 [.code rU] [(0,x0)] H Q:=⟨fun g=>bg (by have h:=h g;rw [CI] at h;exact h)⟩
noncomputable def pr:Code:=(Try.f99.body).getD .skip
def Aj:Nat→Option (List Nat):=fun i=>none
def AA:Nat→Bool:=fun i=>false
def mi (g:Nat→AV) (x0:AV) (H:Heap) (Q:AV→Heap→Prop):Prop :=
 doW (nRes H (⟨0,1,Heap.gen H 0 1,0⟩:Ref) (qBox env.P (⟨0,1,Heap.gen H 0 1,0⟩:Ref) 42 (some x0))) fun v1 H1 =>
 doQ (ab env.P 42 (some v1) 4) fun v2 =>
 doQ (an env.P (Heap.get H1) 37 (some v2)) fun v3 =>
 doQ (bu env.P 37 (some [])) fun v4 =>
 doQ (qBin env.P .eql 37 (.tmp 4) (.tmp 5) (some v3) (some v4)) fun v5 =>
 gQ v5 true (ab env.P 42 (some v1) 6) fun v6 =>
 gQ v5 true (an env.P (Heap.get H1) 40 (some v6)) fun v7 =>
 gQ v5 true (ay env.P false (Heap.get H1) (⟨0,10,Heap.gen H1 0 10,0⟩:Ref) .len #[40] [v7]) fun v8 =>
 gQ v5 true (qBin env.P .eql 3 (.tmp 10) (.const (.int .i64 0)) (some v8) (some (.v (.int .i64 0)))) fun v9 =>
 doQ (aY (some v5) (some v9) (some (.v (.bool false)))) fun v10 =>
 Q v10 H1
theorem zh:mi=fun g x0 H Q=>wp env Try.f99 none 0 Aj AA Q 500 [.code pr] (ofL g [(0,x0)]) H:=by kernel_rfl
theorem zE (x0:AV) (H:Heap) (Q:AV→Heap→Prop) (h : ∀g,mi g x0 H Q):GoL env Try.f99 0 [.code pr] [(0,x0)] H Q:=⟨fun g=>bg (by have h:=h g;rw [zh] at h;exact h)⟩
noncomputable def pq:Code:=(Try.f100.body).getD .skip
def Ai:Nat→Option (List Nat):=fun i=>none
def Az:Nat→Bool:=fun i=>false
def pD (g:Nat→AV) (x0:AV) (H:Heap) (Q:AV→Heap→Prop):Prop :=
 doW (nRes H (⟨0,1,Heap.gen H 0 1,0⟩:Ref) (qBox env.P (⟨0,1,Heap.gen H 0 1,0⟩:Ref) 42 (some x0))) fun v1 H1 =>
 doQ (ab env.P 42 (some v1) 5) fun v2 =>
 doQ (an env.P (Heap.get H1) 33 (some v2)) fun v3 =>
 doW (ak env false (limf env) (limt env 0) H1 (⟨0,5,Heap.gen H1 0 5,0⟩:Ref) (some (.fn (.func 91) [] [])) []) fun v4 H2 =>
 doQ (qBin env.P .eql 33 (.tmp 4) (.tmp 5) (some v3) (some v4)) fun v5 =>
 Q v5 H2
theorem zg:pD=fun g x0 H Q=>wp env Try.f100 none 0 Ai Az Q 500 [.code pq] (ofL g [(0,x0)]) H:=by kernel_rfl
theorem zD (x0:AV) (H:Heap) (Q:AV→Heap→Prop) (h : ∀g,pD g x0 H Q):GoL env Try.f100 0 [.code pq] [(0,x0)] H Q:=⟨fun g=>bg (by have h:=h g;rw [zg] at h;exact h)⟩
noncomputable def nL:Code:=(Try.f91.body).getD .skip
def xO:Nat→Option (List Nat):=fun i=>none
def ya:Nat→Bool:=fun i=>false
def nU (g:Nat→AV) (H:Heap) (Q:AV→Heap→Prop):Prop :=
 doW (nRes H (⟨0,0,Heap.gen H 0 0,0⟩:Ref) (bO env.P (⟨0,0,Heap.gen H 0 0,0⟩:Ref) 33)) fun v1 H1 =>
 doQ (bu env.P 33 (some [])) fun v2 =>
 doW (aw env.P H1 33 (some v1) (some v2)) fun v3 H2 =>
 doQ (aE env.P H2 v1 33) fun v4 =>
 Q v4 H2
theorem xl:nU=fun g  H Q=>wp env Try.f91 none 0 xO ya Q 500 [.code nL] (ofL g []) H:=by kernel_rfl
theorem xB (H:Heap) (Q:AV→Heap→Prop) (h : ∀g,nU g  H Q):GoL env Try.f91 0 [.code nL] [] H Q:=⟨fun g=>bg (by have h:=h g;rw [xl] at h;exact h)⟩
noncomputable def po:Code:=(Try.f101.body).getD .skip
def Ah:Nat→Option (List Nat):=fun i=>none
def Ay:Nat→Bool:=fun i=>false
def ep (g:Nat→AV) (x0 x1:AV) (H:Heap) (Q:AV→Heap→Prop):Prop :=
 doW (nRes H (⟨0,2,Heap.gen H 0 2,0⟩:Ref) (qBox env.P (⟨0,2,Heap.gen H 0 2,0⟩:Ref) 42 (some x0))) fun v1 H1 =>
 doQ (ab env.P 42 (some v1) 4) fun v2 =>
 doQ (an env.P (Heap.get H1) 37 (some v2)) fun v3 =>
 doQ (bu env.P 37 (some [])) fun v4 =>
 doQ (qBin env.P .eql 37 (.tmp 6) (.tmp 7) (some v3) (some v4)) fun v5 =>
 gQ v5 false (ab env.P 42 (some v1) 4) fun v6 =>
 gQ v5 false (an env.P (Heap.get H1) 37 (some v6)) fun v7 =>
 gW v5 false H1 (ak env true (limf env) (limt env 0) H1 (⟨0,12,Heap.gen H1 0 12,0⟩:Ref) (some (.fn (.func 88) [] [])) [v7]) fun v8 H2 =>
 gQ v5 false (qBin env.P .eql 25 (.tmp 12) (.const (.int .i64 0)) (some v8) (some (.v (.int .i64 0)))) fun v9 =>
 doQ (aY (some v5) (some (.v (.bool true))) (some v9)) fun v10 =>
 doQ (an env.P (Heap.get H2) 118 (some x1)) fun v11 =>
 doQ (an env.P (Heap.get H2) 42 (some v1)) fun v12 =>
 doW (ak env true (limf env) (limt env 0) H2 (⟨0,17,Heap.gen H2 0 17,0⟩:Ref) (some v11) [v12]) fun v13 H3 =>
 gQ v13 true (qVal (some v10)) fun v14 =>
 doQ (aY (some v13) (some v14) (some (.v (.bool false)))) fun v15 =>
 gQ v15 true (ab env.P 42 (some v1) 3) fun v16 =>
 gQ v15 true (ab env.P 39 (some v16) 0) fun v17 =>
 gQ v15 true (ab env.P 37 (some v17) 0) fun v18 =>
 gQ v15 true (an env.P (Heap.get H3) 35 (some v18)) fun v19 =>
 gQ v15 true (ab env.P 42 (some v1) 1) fun v20 =>
 gQ v15 true (an env.P (Heap.get H3) 35 (some v20)) fun v21 =>
 gQ v15 true (qBin env.P .eql 35 (.tmp 25) (.tmp 27) (some v19) (some v21)) fun v22 =>
 doQ (aY (some v15) (some v22) (some (.v (.bool false)))) fun v23 =>
 gQ v23 true (ab env.P 42 (some v1) 6) fun v24 =>
 gQ v23 true (an env.P (Heap.get H3) 40 (some v24)) fun v25 =>
 gQ v23 true (ay env.P false (Heap.get H3) (⟨0,33,Heap.gen H3 0 33,0⟩:Ref) .len #[40] [v25]) fun v26 =>
 gQ v23 true (ab env.P 42 (some v1) 3) fun v27 =>
 gQ v23 true (ab env.P 39 (some v27) 1) fun v28 =>
 gQ v23 true (an env.P (Heap.get H3) 3 (some v28)) fun v29 =>
 gQ v23 true (qBin env.P .eql 3 (.tmp 33) (.tmp 36) (some v26) (some v29)) fun v30 =>
 doQ (aY (some v23) (some v30) (some (.v (.bool false)))) fun v31 =>
 gQ v31 true (ab env.P 42 (some v1) 6) fun v32 =>
 gQ v31 true (an env.P (Heap.get H3) 40 (some v32)) fun v33 =>
 gW v31 true H3 (ak env true (limf env) (limt env 0) H3 (⟨0,42,Heap.gen H3 0 42,0⟩:Ref) (some (.fn (.func 89) [] [])) [v33]) fun v34 H4 =>
 gQ v31 true (qBin env.P .eql 25 (.tmp 42) (.const (.int .i64 0)) (some v34) (some (.v (.int .i64 0)))) fun v35 =>
 doQ (aY (some v31) (some v35) (some (.v (.bool false)))) fun v36 =>
 Q v36 H4
theorem zf:ep=fun g x0 x1 H Q=>wp env Try.f101 none 0 Ah Ay Q 500 [.code po] (ofL g [(0,x0),(1,x1)]) H:=by kernel_rfl
theorem zC (x0 x1:AV) (H:Heap) (Q:AV→Heap→Prop) (h : ∀g,ep g x0 x1 H Q):GoL env Try.f101 0 [.code po] [(0,x0),(1,x1)] H Q:=⟨fun g=>bg (by have h:=h g;rw [zf] at h;exact h)⟩
noncomputable def pn:Code:=(Try.f103.body).getD .skip
def Ag:Nat→Option (List Nat):=fun i=>none
def Ax:Nat→Bool:=fun i=>false
def pC (g:Nat→AV) (x0 x1 x2:AV) (H:Heap) (Q:AV→Heap→Prop):Prop :=
 doW (nRes H (⟨0,3,Heap.gen H 0 3,0⟩:Ref) (qBox env.P (⟨0,3,Heap.gen H 0 3,0⟩:Ref) 42 (some x0))) fun v1 H1 =>
 doQ (an env.P (Heap.get H1) 118 (some x1)) fun v2 =>
 doQ (an env.P (Heap.get H1) 42 (some v1)) fun v3 =>
 doW (ak env true (limf env) (limt env 0) H1 (⟨0,7,Heap.gen H1 0 7,0⟩:Ref) (some v2) [v3]) fun v4 H2 =>
 gQ v4 true (an env.P (Heap.get H2) 118 (some x2)) fun v5 =>
 gQ v4 true (an env.P (Heap.get H2) 42 (some v1)) fun v6 =>
 gW v4 true H2 (ak env true (limf env) (limt env 0) H2 (⟨0,11,Heap.gen H2 0 11,0⟩:Ref) (some v5) [v6]) fun v7 H3 =>
 doQ (aY (some v4) (some v7) (some (.v (.bool false)))) fun v8 =>
 Q v8 H3
theorem ze:pC=fun g x0 x1 x2 H Q=>wp env Try.f103 none 0 Ag Ax Q 500 [.code pn] (ofL g [(0,x0),(1,x1),(2,x2)]) H:=by kernel_rfl
theorem zB (x0 x1 x2:AV) (H:Heap) (Q:AV→Heap→Prop) (h : ∀g,pC g x0 x1 x2 H Q):GoL env Try.f103 0 [.code pn] [(0,x0),(1,x1),(2,x2)] H Q:=⟨fun g=>bg (by have h:=h g;rw [ze] at h;exact h)⟩
noncomputable def pk:Code:=(Try.f105.body).getD .skip
def Af:Nat→Option (List Nat):=fun i=>none
def Aw:Nat→Bool:=fun i=>false
def pB (g:Nat→AV) (x0 x1:AV) (H:Heap) (Q:AV→Heap→Prop):Prop :=
 doW (nRes H (⟨0,2,Heap.gen H 0 2,0⟩:Ref) (qBox env.P (⟨0,2,Heap.gen H 0 2,0⟩:Ref) 42 (some x0))) fun v1 H1 =>
 doQ (an env.P (Heap.get H1) 118 (some x1)) fun v2 =>
 doQ (an env.P (Heap.get H1) 42 (some v1)) fun v3 =>
 doW (ak env true (limf env) (limt env 0) H1 (⟨0,6,Heap.gen H1 0 6,0⟩:Ref) (some v2) [v3]) fun v4 H2 =>
 gQ v4 true (ab env.P 42 (some v1) 5) fun v5 =>
 gQ v4 true (an env.P (Heap.get H2) 33 (some v5)) fun v6 =>
 gW v4 true H2 (ak env true (limf env) (limt env 0) H2 (⟨0,10,Heap.gen H2 0 10,0⟩:Ref) (some (.fn (.func 85) [] [])) [v6]) fun v7 H3 =>
 gQ v4 true (qBin env.P .eql 25 (.tmp 10) (.const (.int .i64 0)) (some v7) (some (.v (.int .i64 0)))) fun v8 =>
 doQ (aY (some v4) (some v8) (some (.v (.bool false)))) fun v9 =>
 Q v9 H3
theorem zd:pB=fun g x0 x1 H Q=>wp env Try.f105 none 0 Af Aw Q 500 [.code pk] (ofL g [(0,x0),(1,x1)]) H:=by kernel_rfl
theorem zA (x0 x1:AV) (H:Heap) (Q:AV→Heap→Prop) (h : ∀g,pB g x0 x1 H Q):GoL env Try.f105 0 [.code pk] [(0,x0),(1,x1)] H Q:=⟨fun g=>bg (by have h:=h g;rw [zd] at h;exact h)⟩
noncomputable def gD:Code:=(Try.f52.body).getD .skip
def o5:Nat→Option (List Nat):=fun i=>none
def pf:Nat→Bool:=fun i=>false
def bJ (g:Nat→AV) (x0 x1:AV) (H:Heap) (Q:AV→Heap→Prop):Prop :=
 doW (nRes H (⟨0,2,Heap.gen H 0 2,0⟩:Ref) (qBox env.P (⟨0,2,Heap.gen H 0 2,0⟩:Ref) 42 (some x0))) fun v1 H1 =>
 doW (nRes H1 (⟨0,3,Heap.gen H1 0 3,0⟩:Ref) (qBox env.P (⟨0,3,Heap.gen H1 0 3,0⟩:Ref) 42 (some x1))) fun v2 H2 =>
 doQ (ab env.P 42 (some v1) 0) fun v3 =>
 doQ (an env.P (Heap.get H2) 5 (some v3)) fun v4 =>
 doQ (ab env.P 42 (some v2) 0) fun v5 =>
 doQ (an env.P (Heap.get H2) 5 (some v5)) fun v6 =>
 doQ (qBin env.P .eql 5 (.tmp 6) (.tmp 8) (some v4) (some v6)) fun v7 =>
 gQ v7 true (ab env.P 42 (some v1) 1) fun v8 =>
 gQ v7 true (an env.P (Heap.get H2) 35 (some v8)) fun v9 =>
 gQ v7 true (ab env.P 42 (some v2) 1) fun v10 =>
 gQ v7 true (an env.P (Heap.get H2) 35 (some v10)) fun v11 =>
 gQ v7 true (qBin env.P .eql 35 (.tmp 12) (.tmp 14) (some v9) (some v11)) fun v12 =>
 doQ (aY (some v7) (some v12) (some (.v (.bool false)))) fun v13 =>
 gQ v13 true (ab env.P 42 (some v1) 2) fun v14 =>
 gQ v13 true (an env.P (Heap.get H2) 3 (some v14)) fun v15 =>
 gQ v13 true (ab env.P 42 (some v2) 2) fun v16 =>
 gQ v13 true (an env.P (Heap.get H2) 3 (some v16)) fun v17 =>
 gQ v13 true (qBin env.P .eql 3 (.tmp 19) (.tmp 21) (some v15) (some v17)) fun v18 =>
 doQ (aY (some v13) (some v18) (some (.v (.bool false)))) fun v19 =>
 gQ v19 true (ab env.P 42 (some v1) 3) fun v20 =>
 gQ v19 true (an env.P (Heap.get H2) 39 (some v20)) fun v21 =>
 gQ v19 true (ab env.P 42 (some v2) 3) fun v22 =>
 gQ v19 true (an env.P (Heap.get H2) 39 (some v22)) fun v23 =>
 gQ v19 true (qBin env.P .eql 39 (.tmp 26) (.tmp 28) (some v21) (some v23)) fun v24 =>
 doQ (aY (some v19) (some v24) (some (.v (.bool false)))) fun v25 =>
 gQ v25 true (ab env.P 42 (some v1) 4) fun v26 =>
 gQ v25 true (an env.P (Heap.get H2) 37 (some v26)) fun v27 =>
 gQ v25 true (ab env.P 42 (some v2) 4) fun v28 =>
 gQ v25 true (an env.P (Heap.get H2) 37 (some v28)) fun v29 =>
 gQ v25 true (qBin env.P .eql 37 (.tmp 33) (.tmp 35) (some v27) (some v29)) fun v30 =>
 doQ (aY (some v25) (some v30) (some (.v (.bool false)))) fun v31 =>
 gQ v31 true (ab env.P 42 (some v1) 5) fun v32 =>
 gQ v31 true (an env.P (Heap.get H2) 33 (some v32)) fun v33 =>
 gQ v31 true (ab env.P 42 (some v2) 5) fun v34 =>
 gQ v31 true (an env.P (Heap.get H2) 33 (some v34)) fun v35 =>
 gQ v31 true (qBin env.P .eql 33 (.tmp 40) (.tmp 42) (some v33) (some v35)) fun v36 =>
 doQ (aY (some v31) (some v36) (some (.v (.bool false)))) fun v37 =>
 gQ v37 true (ab env.P 42 (some v1) 6) fun v38 =>
 gQ v37 true (an env.P (Heap.get H2) 40 (some v38)) fun v39 =>
 gQ v37 true (ab env.P 42 (some v2) 6) fun v40 =>
 gQ v37 true (an env.P (Heap.get H2) 40 (some v40)) fun v41 =>
 gW v37 true H2 (ak env true (limf env) (limt env 0) H2 (⟨0,50,Heap.gen H2 0 50,0⟩:Ref) (some (.fn (.func 70) [] [])) [v39,v41]) fun v42 H3 =>
 doQ (aY (some v37) (some v42) (some (.v (.bool false)))) fun v43 =>
 Q v43 H3
theorem oO:bJ=fun g x0 x1 H Q=>wp env Try.f52 none 0 o5 pf Q 500 [.code gD] (ofL g [(0,x0),(1,x1)]) H:=by kernel_rfl
theorem oT (x0 x1:AV) (H:Heap) (Q:AV→Heap→Prop) (h : ∀g,bJ g x0 x1 H Q):GoL env Try.f52 0 [.code gD] [(0,x0),(1,x1)] H Q:=⟨fun g=>bg (by have h:=h g;rw [oO] at h;exact h)⟩
noncomputable def tK:Code:=(Try.f78.body).getD .skip
def FY:Nat→Option (List Nat):=fun i=>none
def Gg:Nat→Bool:=fun i=>false
def iG (g:Nat→AV) (x0 x1:AV) (H:Heap) (Q:AV→Heap→Prop):Prop :=
 doW (nRes H (⟨0,2,Heap.gen H 0 2,0⟩:Ref) (qBox env.P (⟨0,2,Heap.gen H 0 2,0⟩:Ref) 42 (some x0))) fun v1 H1 =>
 doW (nRes H1 (⟨0,3,Heap.gen H1 0 3,0⟩:Ref) (qBox env.P (⟨0,3,Heap.gen H1 0 3,0⟩:Ref) 42 (some x1))) fun v2 H2 =>
 doQ (an env.P (Heap.get H2) 42 (some v1)) fun v3 =>
 doQ (an env.P (Heap.get H2) 42 (some v2)) fun v4 =>
 doW (nRes H2 (⟨0,5,Heap.gen H2 0 5,0⟩:Ref) (bO env.P (⟨0,5,Heap.gen H2 0 5,0⟩:Ref) 42)) fun v5 H3 =>
 doW (nRes H3 (⟨0,6,Heap.gen H3 0 6,0⟩:Ref) (bO env.P (⟨0,6,Heap.gen H3 0 6,0⟩:Ref) 42)) fun v6 H4 =>
 doW (aw env.P H4 42 (some v5) (some v3)) fun v7 H5 =>
 doW (aw env.P H5 42 (some v6) (some v4)) fun v8 H6 =>
  oJ [(v2,v5)] [v5,v6] [] H6 ∧
 (doQ (ab env.P 42 (some v5) 0) fun v9 =>
 doQ (an env.P (Heap.get H6) 5 (some v9)) fun v10 =>
 doQ (ab env.P 42 (some v6) 0) fun v11 =>
 doQ (an env.P (Heap.get H6) 5 (some v11)) fun v12 =>
 doQ (qBin env.P .eql 5 (.tmp 10) (.tmp 12) (some v10) (some v12)) fun v13 =>
 gQ v13 true (ab env.P 42 (some v5) 1) fun v14 =>
 gQ v13 true (an env.P (Heap.get H6) 35 (some v14)) fun v15 =>
 gQ v13 true (ab env.P 42 (some v6) 1) fun v16 =>
 gQ v13 true (an env.P (Heap.get H6) 35 (some v16)) fun v17 =>
 gQ v13 true (qBin env.P .eql 35 (.tmp 16) (.tmp 18) (some v15) (some v17)) fun v18 =>
 doQ (aY (some v13) (some v18) (some (.v (.bool false)))) fun v19 =>
 gQ v19 true (ab env.P 42 (some v5) 2) fun v20 =>
 gQ v19 true (an env.P (Heap.get H6) 3 (some v20)) fun v21 =>
 gQ v19 true (ab env.P 42 (some v6) 2) fun v22 =>
 gQ v19 true (an env.P (Heap.get H6) 3 (some v22)) fun v23 =>
 gQ v19 true (qBin env.P .eql 3 (.tmp 23) (.tmp 25) (some v21) (some v23)) fun v24 =>
 doQ (aY (some v19) (some v24) (some (.v (.bool false)))) fun v25 =>
 gQ v25 true (ab env.P 42 (some v5) 3) fun v26 =>
 gQ v25 true (an env.P (Heap.get H6) 39 (some v26)) fun v27 =>
 gQ v25 true (ab env.P 42 (some v6) 3) fun v28 =>
 gQ v25 true (an env.P (Heap.get H6) 39 (some v28)) fun v29 =>
 gQ v25 true (qBin env.P .eql 39 (.tmp 30) (.tmp 32) (some v27) (some v29)) fun v30 =>
 doQ (aY (some v25) (some v30) (some (.v (.bool false)))) fun v31 =>
 gQ v31 true (ab env.P 42 (some v5) 4) fun v32 =>
 gQ v31 true (an env.P (Heap.get H6) 37 (some v32)) fun v33 =>
 gQ v31 true (ab env.P 42 (some v6) 4) fun v34 =>
 gQ v31 true (an env.P (Heap.get H6) 37 (some v34)) fun v35 =>
 gQ v31 true (qBin env.P .eql 37 (.tmp 37) (.tmp 39) (some v33) (some v35)) fun v36 =>
 doQ (aY (some v31) (some v36) (some (.v (.bool false)))) fun v37 =>
 gQ v37 true (ab env.P 42 (some v5) 5) fun v38 =>
 gQ v37 true (an env.P (Heap.get H6) 33 (some v38)) fun v39 =>
 gQ v37 true (ab env.P 42 (some v6) 5) fun v40 =>
 gQ v37 true (an env.P (Heap.get H6) 33 (some v40)) fun v41 =>
 gQ v37 true (qBin env.P .eql 33 (.tmp 44) (.tmp 46) (some v39) (some v41)) fun v42 =>
 doQ (aY (some v37) (some v42) (some (.v (.bool false)))) fun v43 =>
 gQ v43 true (ab env.P 42 (some v5) 6) fun v44 =>
 gQ v43 true (an env.P (Heap.get H6) 40 (some v44)) fun v45 =>
 gQ v43 true (ab env.P 42 (some v6) 6) fun v46 =>
 gQ v43 true (an env.P (Heap.get H6) 40 (some v46)) fun v47 =>
 gW v43 true H6 (ak env true (limf env) (limt env 0) H6 (⟨0,54,Heap.gen H6 0 54,0⟩:Ref) (some (.fn (.func 92) [] [])) [v45,v47]) fun v48 H7 =>
 doQ (aY (some v43) (some v48) (some (.v (.bool false)))) fun v49 =>
 Q v49 H7)
theorem Fp:iG=fun g x0 x1 H Q=>wp env Try.f78 none 0 FY Gg Q 500 [.code tK] (ofL g [(0,x0),(1,x1)]) H:=by kernel_rfl
theorem Ft (x0 x1:AV) (H:Heap) (Q:AV→Heap→Prop) (h : ∀g,iG g x0 x1 H Q):GoL env Try.f78 0 [.code tK] [(0,x0),(1,x1)] H Q:=⟨fun g=>bg (by have h:=h g;rw [Fp] at h;exact h)⟩
noncomputable def rT:Code:=(Try.f55.body).getD .skip
def Dv:Nat→Option (List Nat):=fun i=>none
def DX:Nat→Bool:=fun i=>false
def rZ (g:Nat→AV) (x0:AV) (H:Heap) (Q:AV→Heap→Prop):Prop :=
 doW (nRes H (⟨0,1,Heap.gen H 0 1,0⟩:Ref) (qBox env.P (⟨0,1,Heap.gen H 0 1,0⟩:Ref) 42 (some x0))) fun v1 H1 =>
 doQ (ab env.P 42 (some v1) 6) fun v2 =>
 doQ (an env.P (Heap.get H1) 40 (some v2)) fun v3 =>
 doW (ak env true (limf env) (limt env 0) H1 (⟨0,5,Heap.gen H1 0 5,0⟩:Ref) (some (.fn (.func 76) [] [])) [v3,(.v (.int .i32 (-1)))]) fun v4 H2 =>
 doQ (qUn env.P .not (some v4)) fun v5 =>
 Q v5 H2
theorem CH:rZ=fun g x0 H Q=>wp env Try.f55 none 0 Dv DX Q 500 [.code rT] (ofL g [(0,x0)]) H:=by kernel_rfl
theorem CP (x0:AV) (H:Heap) (Q:AV→Heap→Prop) (h : ∀g,rZ g x0 H Q):GoL env Try.f55 0 [.code rT] [(0,x0)] H Q:=⟨fun g=>bg (by have h:=h g;rw [CH] at h;exact h)⟩
noncomputable def dO:Code:=(Try.f76.body).getD .skip
def jK:Nat→Option (List Nat):=fun i=>none
def jV:Nat→Bool:=fun i=>false
def dR (g:Nat→AV) (x0 x1:AV) (H:Heap) (Q:AV→Heap→Prop):Prop :=
 doW (ak env true (limf env) (limt env 0) H (⟨0,7,Heap.gen H 0 7,0⟩:Ref) (some (.fn (.func 90) [] [])) [x0,x1]) fun v1 H1 =>
 doQ (qBin env.P .geq 3 (.tmp 7) (.const (.int .i64 0)) (some v1) (some (.v (.int .i64 0)))) fun v2 =>
 Q v2 H1
theorem jD:dR=fun g x0 x1 H Q=>wp env Try.f76 none 0 jK jV Q 500 [.code dO] (ofL g [(0,x0),(1,x1)]) H:=by kernel_rfl
theorem jG (x0 x1:AV) (H:Heap) (Q:AV→Heap→Prop) (h : ∀g,dR g x0 x1 H Q):GoL env Try.f76 0 [.code dO] [(0,x0),(1,x1)] H Q:=⟨fun g=>bg (by have h:=h g;rw [jD] at h;exact h)⟩
noncomputable def df:Code:=(Try.f90.body).getD .skip
noncomputable def cm:List Item:=(bP 2 400 [.code df]).getD []
def gk:Nat→Option (List Nat):=fun i=>cond (Nat.beq i 2) (some [8,0,1,7]) (none)
def gp:Nat→Bool:=fun i=>false
def eB (g:Nat→AV) (x0 x1:AV) (H:Heap) (Q:AV→Heap→Prop):Prop :=
 doQ (ay env.P false (Heap.get H) (⟨0,7,Heap.gen H 0 7,0⟩:Ref) .len #[40] [x0]) fun v1 =>
  GoL env Try.f90 0 cm [(8,(.v (.int .i64 0))),(0,x0),(1,x1),(7,v1)] H Q
theorem kR:eB=fun g x0 x1 H Q=>wp env Try.f90 none 0 gk gp Q 500 [.code df] (ofL g [(0,x0),(1,x1)]) H:=by kernel_rfl
theorem kU (x0 x1:AV) (H:Heap) (Q:AV→Heap→Prop) (h : ∀g,eB g x0 x1 H Q):GoL env Try.f90 0 [.code df] [(0,x0),(1,x1)] H Q:=⟨fun g=>bg (by have h:=h g;rw [kR] at h;exact h)⟩
def ct (g:Nat→AV) (x8 x0 x1 x7:AV) (H:Heap) (Q:AV→Heap→Prop):Prop :=
 doQ (qBin env.P .lss 3 (.tmp 8) (.tmp 7) (some x8) (some x7)) fun v1 =>
 br (some v1) (
 doQ (au env.P (Heap.get H) 40 (some x0) (some x8)) fun v2 =>
 doQ (an env.P (Heap.get H) 21 (some v2)) fun v3 =>
 doQ (qBin env.P .eql 21 (.tmp 11) (.tmp 15) (some x1) (some v3)) fun v4 =>
 br (some v4) (
 Q x8 H) (
 doQ (qBin env.P .add 3 (.tmp 8) (.const (.int .i64 1)) (some x8) (some (.v (.int .i64 1)))) fun v5 =>
  GoL env Try.f90 0 cm [(8,v5),(0,x0),(1,x1),(7,x7)] H Q)) (
 Q (.v (.int .i64 (-1))) H)
theorem ke:ct=fun g x8 x0 x1 x7 H Q=>wp env Try.f90 none 0 gk gp Q 500 (fk cm) (ofL g [(8,x8),(0,x0),(1,x1),(7,x7)]) H:=by kernel_rfl
theorem fO (x8 x0 x1 x7:AV) (H:Heap) (Q:AV→Heap→Prop) (h : ∀g,ct g x8 x0 x1 x7 H Q):GoL env Try.f90 0 cm [(8,x8),(0,x0),(1,x1),(7,x7)] H Q:=cQ fun g=>bg (by have h:=h g;rw [ke] at h;exact h)
end Go.Proofs.Ytmjkpdknicjjgaa
