/-
  What is to be shown of each function, computed from its code. No statement of a seat is proved here.
-/
import Derived.Test.YtmjkpdknicjjgaaLgTy
set_option linter.unusedVariables false
set_option maxRecDepth 1000000
namespace Go.Proofs.Ytmjkpdknicjjgaa
open Go.Ab
noncomputable def eZ:Code:=(Try.f70.body).getD .skip
noncomputable def dx:List Item:=(ca 4 400 [.code eZ]).getD []
def jL:Nat→Option (List Nat):=fun i=>cond (Nat.beq i 4) (some [5,1,0]) (none)
def jW:Nat→Bool:=fun i=>false
def fa (g:Nat→AV) (x0 x1:AV) (H:Heap) (Q:AV→Heap→Prop):Prop :=
 doQ (aC env.P false (Heap.get H) (⟨0,7,Heap.gen H 0 7,0⟩:Ref) .len #[40] [x0]) fun v1 =>
 doQ (aC env.P false (Heap.get H) (⟨0,9,Heap.gen H 0 9,0⟩:Ref) .len #[40] [x1]) fun v2 =>
 doQ (qBin env.P .neq 3 (.tmp 7) (.tmp 9) (some v1) (some v2)) fun v3 =>
 br (some v3) (
 Q (.v (.bool false)) H) (
  GoL env Try.f70 0 dx [(5,(.v (.int .i64 0))),(1,x1),(0,x0)] H Q)
theorem oh:fa=fun g x0 x1 H Q=>wp env Try.f70 none 0 jL jW Q 500 [.code eZ] (ofL g [(0,x0),(1,x1)]) H:=by kernel_rfl
theorem ot (x0 x1:AV) (H:Heap) (Q:AV→Heap→Prop) (h : ∀g,fa g x0 x1 H Q):GoL env Try.f70 0 [.code eZ] [(0,x0),(1,x1)] H Q:=⟨fun g=>bn (by have h:=h g;rw [oh] at h;exact h)⟩
def dB (g:Nat→AV) (x5 x1 x0:AV) (H:Heap) (Q:AV→Heap→Prop):Prop :=
 doQ (aC env.P false (Heap.get H) (⟨0,13,Heap.gen H 0 13,0⟩:Ref) .len #[40] [x0]) fun v1 =>
 doQ (qBin env.P .lss 3 (.tmp 11) (.tmp 13) (some x5) (some v1)) fun v2 =>
 br (some v2) (
 doQ (ay env.P (Heap.get H) 40 (some x0) (some x5)) fun v3 =>
 doQ (aq env.P (Heap.get H) 21 (some v3)) fun v4 =>
 doQ (ay env.P (Heap.get H) 40 (some x1) (some x5)) fun v5 =>
 doQ (aq env.P (Heap.get H) 21 (some v5)) fun v6 =>
 doQ (qBin env.P .neq 21 (.tmp 20) (.tmp 24) (some v4) (some v6)) fun v7 =>
 br (some v7) (
 Q (.v (.bool false)) H) (
 doQ (qBin env.P .add 3 (.tmp 15) (.const (.int .i64 1)) (some x5) (some (.v (.int .i64 1)))) fun v8 =>
  GoL env Try.f70 0 dx [(5,v8),(1,x1),(0,x0)] H Q)) (
 Q (.v (.bool true)) H)
theorem nd:dB=fun g x5 x1 x0 H Q=>wp env Try.f70 none 0 jL jW Q 500 (gf dx) (ofL g [(5,x5),(1,x1),(0,x0)]) H:=by kernel_rfl
theorem iS (x5 x1 x0:AV) (H:Heap) (Q:AV→Heap→Prop) (h : ∀g,dB g x5 x1 x0 H Q):GoL env Try.f70 0 dx [(5,x5),(1,x1),(0,x0)] H Q:=dC fun g=>bn (by have h:=h g;rw [nd] at h;exact h)
noncomputable def jZ:Code:=(Try.f71.body).getD .skip
def sw:Nat→Option (List Nat):=fun i=>none
def sG:Nat→Bool:=fun i=>false
def j4 (g:Nat→AV) (x0:AV) (H:Heap) (Q:AV→Heap→Prop):Prop :=
 doW (nRes H (⟨0,1,Heap.gen H 0 1,0⟩:Ref) (qBox env.P (⟨0,1,Heap.gen H 0 1,0⟩:Ref) 35 (some x0))) fun v1 H1 =>
 doQ (ae env.P 35 (some v1) 0) fun v2 =>
 doQ (aq env.P (Heap.get H1) 33 (some v2)) fun v3 =>
 doW (ao env true (limf env) (limt env 0) H1 (⟨0,5,Heap.gen H1 0 5,0⟩:Ref) (some (.fn (.func 85) [] [])) [v3]) fun v4 H2 =>
 doQ (qBin env.P .eql 25 (.tmp 5) (.const (.int .i64 0)) (some v4) (some (.v (.int .i64 0)))) fun v5 =>
 gQ v5 true (ae env.P 35 (some v1) 1) fun v6 =>
 gQ v5 true (aq env.P (Heap.get H2) 5 (some v6)) fun v7 =>
 gQ v5 true (qBin env.P .lss 5 (.tmp 9) (.const (.int .u8 8)) (some v7) (some (a8 8))) fun v8 =>
 doQ (bj (some v5) (some v8) (some (.v (.bool false)))) fun v9 =>
 doW (ao env true (limf env) (limt env 0) H2 (⟨0,12,Heap.gen H2 0 12,0⟩:Ref) (some (.fn (.func 84) [] [])) [v9]) fun v10 H3 =>
 Q v10 H3
theorem rQ:j4=fun g x0 H Q=>wp env Try.f71 none 0 sw sG Q 500 [.code jZ] (ofL g [(0,x0)]) H:=by kernel_rfl
theorem rW (x0:AV) (H:Heap) (Q:AV→Heap→Prop) (h : ∀g,j4 g x0 H Q):GoL env Try.f71 0 [.code jZ] [(0,x0)] H Q:=⟨fun g=>bn (by have h:=h g;rw [rQ] at h;exact h)⟩
noncomputable def lD:Code:=(Try.f86.body).getD .skip
def uo:Nat→Option (List Nat):=fun i=>none
def uw:Nat→Bool:=fun i=>false
def fG (g:Nat→AV) (x0:AV) (H:Heap) (Q:AV→Heap→Prop):Prop :=
 doW (nRes H (⟨0,1,Heap.gen H 0 1,0⟩:Ref) (qBox env.P (⟨0,1,Heap.gen H 0 1,0⟩:Ref) 39 (some x0))) fun v1 H1 =>
 doQ (ae env.P 39 (some v1) 0) fun v2 =>
 doQ (aq env.P (Heap.get H1) 37 (some v2)) fun v3 =>
 doW (ao env true (limf env) (limt env 0) H1 (⟨0,5,Heap.gen H1 0 5,0⟩:Ref) (some (.fn (.func 88) [] [])) [v3]) fun v4 H2 =>
 doQ (qBin env.P .eql 25 (.tmp 5) (.const (.int .i64 0)) (some v4) (some (.v (.int .i64 0)))) fun v5 =>
 gQ v5 true (ae env.P 39 (some v1) 1) fun v6 =>
 gQ v5 true (aq env.P (Heap.get H2) 3 (some v6)) fun v7 =>
 gQ v5 true (qBin env.P .geq 3 (.tmp 9) (.const (.int .i64 1)) (some v7) (some (.v (.int .i64 1)))) fun v8 =>
 doQ (bj (some v5) (some v8) (some (.v (.bool false)))) fun v9 =>
 gQ v9 true (ae env.P 39 (some v1) 1) fun v10 =>
 gQ v9 true (aq env.P (Heap.get H2) 3 (some v10)) fun v11 =>
 gQ v9 true (qBin env.P .leq 3 (.tmp 14) (.const (.int .i64 64)) (some v11) (some (.v (.int .i64 64)))) fun v12 =>
 doQ (bj (some v9) (some v12) (some (.v (.bool false)))) fun v13 =>
 gQ v13 true (ae env.P 39 (some v1) 0) fun v14 =>
 gQ v13 true (ae env.P 37 (some v14) 1) fun v15 =>
 gQ v13 true (aq env.P (Heap.get H2) 3 (some v15)) fun v16 =>
 gQ v13 true (ae env.P 39 (some v1) 1) fun v17 =>
 gQ v13 true (aq env.P (Heap.get H2) 3 (some v17)) fun v18 =>
 gQ v13 true (qBin env.P .add 3 (.tmp 20) (.tmp 22) (some v16) (some v18)) fun v19 =>
 gQ v13 true (qBin env.P .sub 3 (.tmp 23) (.const (.int .i64 1)) (some v19) (some (.v (.int .i64 1)))) fun v20 =>
 gQ v13 true (qBin env.P .leq 3 (.tmp 24) (.const (.int .i64 1099511627776)) (some v20) (some (.v (.int .i64 1099511627776)))) fun v21 =>
 doQ (bj (some v13) (some v21) (some (.v (.bool false)))) fun v22 =>
 doW (ao env true (limf env) (limt env 0) H2 (⟨0,27,Heap.gen H2 0 27,0⟩:Ref) (some (.fn (.func 84) [] [])) [v22]) fun v23 H3 =>
 Q v23 H3
theorem tY:fG=fun g x0 H Q=>wp env Try.f86 none 0 uo uw Q 500 [.code lD] (ofL g [(0,x0)]) H:=by kernel_rfl
theorem ue (x0:AV) (H:Heap) (Q:AV→Heap→Prop) (h : ∀g,fG g x0 H Q):GoL env Try.f86 0 [.code lD] [(0,x0)] H Q:=⟨fun g=>bn (by have h:=h g;rw [tY] at h;exact h)⟩
noncomputable def dm:Code:=(Try.f92.body).getD .skip
noncomputable def cl:List Item:=(ca 4 400 [.code dm]).getD []
def gq:Nat→Option (List Nat):=fun i=>cond (Nat.beq i 4) (some [13,1,0,12]) (none)
def gx:Nat→Bool:=fun i=>false
def dp (g:Nat→AV) (x0 x1:AV) (H:Heap) (Q:AV→Heap→Prop):Prop :=
 doQ (aC env.P false (Heap.get H) (⟨0,7,Heap.gen H 0 7,0⟩:Ref) .len #[40] [x0]) fun v1 =>
 doQ (aC env.P false (Heap.get H) (⟨0,9,Heap.gen H 0 9,0⟩:Ref) .len #[40] [x1]) fun v2 =>
 doQ (qBin env.P .neq 3 (.tmp 7) (.tmp 9) (some v1) (some v2)) fun v3 =>
 br (some v3) (
 Q (.v (.bool false)) H) (
 doQ (aC env.P false (Heap.get H) (⟨0,12,Heap.gen H 0 12,0⟩:Ref) .len #[40] [x0]) fun v4 =>
  GoL env Try.f92 0 cl [(13,(.v (.int .i64 0))),(1,x1),(0,x0),(12,v4)] H Q)
theorem kK:dp=fun g x0 x1 H Q=>wp env Try.f92 none 0 gq gx Q 500 [.code dm] (ofL g [(0,x0),(1,x1)]) H:=by kernel_rfl
theorem kN (x0 x1:AV) (H:Heap) (Q:AV→Heap→Prop) (h : ∀g,dp g x0 x1 H Q):GoL env Try.f92 0 [.code dm] [(0,x0),(1,x1)] H Q:=⟨fun g=>bn (by have h:=h g;rw [kK] at h;exact h)⟩
def cr (g:Nat→AV) (x13 x1 x0 x12:AV) (H:Heap) (Q:AV→Heap→Prop):Prop :=
 doQ (qBin env.P .lss 3 (.tmp 13) (.tmp 12) (some x13) (some x12)) fun v1 =>
 br (some v1) (
 doQ (ay env.P (Heap.get H) 40 (some x0) (some x13)) fun v2 =>
 doQ (aq env.P (Heap.get H) 21 (some v2)) fun v3 =>
 doQ (ay env.P (Heap.get H) 40 (some x1) (some x13)) fun v4 =>
 doQ (aq env.P (Heap.get H) 21 (some v4)) fun v5 =>
 doQ (qBin env.P .neq 21 (.tmp 19) (.tmp 23) (some v3) (some v5)) fun v6 =>
 br (some v6) (
 Q (.v (.bool false)) H) (
 doQ (qBin env.P .add 3 (.tmp 13) (.const (.int .i64 1)) (some x13) (some (.v (.int .i64 1)))) fun v7 =>
  GoL env Try.f92 0 cl [(13,v7),(1,x1),(0,x0),(12,x12)] H Q)) (
 Q (.v (.bool true)) H)
theorem j8:cr=fun g x13 x1 x0 x12 H Q=>wp env Try.f92 none 0 gq gx Q 500 (gf cl) (ofL g [(13,x13),(1,x1),(0,x0),(12,x12)]) H:=by kernel_rfl
theorem fU (x13 x1 x0 x12:AV) (H:Heap) (Q:AV→Heap→Prop) (h : ∀g,cr g x13 x1 x0 x12 H Q):GoL env Try.f92 0 cl [(13,x13),(1,x1),(0,x0),(12,x12)] H Q:=dC fun g=>bn (by have h:=h g;rw [j8] at h;exact h)
noncomputable def pP:Code:=(Try.f88.body).getD .skip
def AZ:Nat→Option (List Nat):=fun i=>none
def Bq:Nat→Bool:=fun i=>false
def pX (g:Nat→AV) (x0:AV) (H:Heap) (Q:AV→Heap→Prop):Prop :=
 doW (nRes H (⟨0,1,Heap.gen H 0 1,0⟩:Ref) (qBox env.P (⟨0,1,Heap.gen H 0 1,0⟩:Ref) 37 (some x0))) fun v1 H1 =>
 doQ (ae env.P 37 (some v1) 0) fun v2 =>
 doQ (aq env.P (Heap.get H1) 35 (some v2)) fun v3 =>
 doW (ao env true (limf env) (limt env 0) H1 (⟨0,5,Heap.gen H1 0 5,0⟩:Ref) (some (.fn (.func 71) [] [])) [v3]) fun v4 H2 =>
 doQ (qBin env.P .eql 25 (.tmp 5) (.const (.int .i64 0)) (some v4) (some (.v (.int .i64 0)))) fun v5 =>
 gQ v5 true (ae env.P 37 (some v1) 1) fun v6 =>
 gQ v5 true (aq env.P (Heap.get H2) 3 (some v6)) fun v7 =>
 gQ v5 true (qBin env.P .geq 3 (.tmp 9) (.const (.int .i64 1)) (some v7) (some (.v (.int .i64 1)))) fun v8 =>
 doQ (bj (some v5) (some v8) (some (.v (.bool false)))) fun v9 =>
 gQ v9 true (ae env.P 37 (some v1) 1) fun v10 =>
 gQ v9 true (aq env.P (Heap.get H2) 3 (some v10)) fun v11 =>
 gQ v9 true (qBin env.P .leq 3 (.tmp 14) (.const (.int .i64 1099511627776)) (some v11) (some (.v (.int .i64 1099511627776)))) fun v12 =>
 doQ (bj (some v9) (some v12) (some (.v (.bool false)))) fun v13 =>
 doW (ao env true (limf env) (limt env 0) H2 (⟨0,17,Heap.gen H2 0 17,0⟩:Ref) (some (.fn (.func 84) [] [])) [v13]) fun v14 H3 =>
 Q v14 H3
theorem Ag:pX=fun g x0 H Q=>wp env Try.f88 none 0 AZ Bq Q 500 [.code pP] (ofL g [(0,x0)]) H:=by kernel_rfl
theorem Ar (x0:AV) (H:Heap) (Q:AV→Heap→Prop) (h : ∀g,pX g x0 H Q):GoL env Try.f88 0 [.code pP] [(0,x0)] H Q:=⟨fun g=>bn (by have h:=h g;rw [Ag] at h;exact h)⟩
noncomputable def nn:Code:=(Try.f89.body).getD .skip
def xa:Nat→Option (List Nat):=fun i=>none
def xp:Nat→Bool:=fun i=>false
def kG (g:Nat→AV) (x0:AV) (H:Heap) (Q:AV→Heap→Prop):Prop :=
 doQ (aC env.P false (Heap.get H) (⟨0,6,Heap.gen H 0 6,0⟩:Ref) .len #[40] [x0]) fun v1 =>
 doQ (qBin env.P .gtr 3 (.tmp 6) (.const (.int .i64 64)) (some v1) (some (.v (.int .i64 64)))) fun v2 =>
 br (some v2) (
 Q (.v (.int .i64 4)) H) (
 doW (ao env true (limf env) (limt env 0) H (⟨0,11,Heap.gen H 0 11,0⟩:Ref) (some (.fn (.func 109) [] [])) [x0,(.fn (.func 107) [] [])]) fun v3 H1 =>
 br (some v3) (
 Q (.v (.int .i64 8)) H1) (
 Q (.v (.int .i64 0)) H1))
theorem wE:kG=fun g x0 H Q=>wp env Try.f89 none 0 xa xp Q 500 [.code nn] (ofL g [(0,x0)]) H:=by kernel_rfl
theorem wQ (x0:AV) (H:Heap) (Q:AV→Heap→Prop) (h : ∀g,kG g x0 H Q):GoL env Try.f89 0 [.code nn] [(0,x0)] H Q:=⟨fun g=>bn (by have h:=h g;rw [wE] at h;exact h)⟩
noncomputable def nw:Code:=(Try.f85.body).getD .skip
def xf:Nat→Option (List Nat):=fun i=>none
def xu:Nat→Bool:=fun i=>false
def nE (g:Nat→AV) (x0:AV) (H:Heap) (Q:AV→Heap→Prop):Prop :=
 doW (nRes H (⟨0,1,Heap.gen H 0 1,0⟩:Ref) (qBox env.P (⟨0,1,Heap.gen H 0 1,0⟩:Ref) 33 (some x0))) fun v1 H1 =>
 doQ (ae env.P 33 (some v1) 0) fun v2 =>
 doQ (aq env.P (Heap.get H1) 5 (some v2)) fun v3 =>
 doQ (qBin env.P .gtr 5 (.tmp 4) (.const (.int .u8 15)) (some v3) (some (a8 15))) fun v4 =>
 br (some v4) (
 Q (.v (.int .i64 8)) H1) (
 Q (.v (.int .i64 0)) H1)
theorem wK:nE=fun g x0 H Q=>wp env Try.f85 none 0 xf xu Q 500 [.code nw] (ofL g [(0,x0)]) H:=by kernel_rfl
theorem wV (x0:AV) (H:Heap) (Q:AV→Heap→Prop) (h : ∀g,nE g x0 H Q):GoL env Try.f85 0 [.code nw] [(0,x0)] H Q:=⟨fun g=>bn (by have h:=h g;rw [wK] at h;exact h)⟩
noncomputable def pO:Code:=(Try.f84.body).getD .skip
def AX:Nat→Option (List Nat):=fun i=>none
def Bo:Nat→Bool:=fun i=>false
def pW (g:Nat→AV) (x0:AV) (H:Heap) (Q:AV→Heap→Prop):Prop :=
 br (some x0) (
 Q (.v (.int .i64 0)) H) (
 Q (.v (.int .i64 8)) H)
theorem Ae:pW=fun g x0 H Q=>wp env Try.f84 none 0 AX Bo Q 500 [.code pO] (ofL g [(0,x0)]) H:=by kernel_rfl
theorem Aq (x0:AV) (H:Heap) (Q:AV→Heap→Prop) (h : ∀g,pW g x0 H Q):GoL env Try.f84 0 [.code pO] [(0,x0)] H Q:=⟨fun g=>bn (by have h:=h g;rw [Ae] at h;exact h)⟩
noncomputable def lA:Code:=(Try.f107.body).getD .skip
def uh:Nat→Option (List Nat):=fun i=>none
def ur:Nat→Bool:=fun i=>false
def je (g:Nat→AV) (x0:AV) (H:Heap) (Q:AV→Heap→Prop):Prop :=
 doQ (qBin env.P .neq 21 (.tmp 3) (.const (.int .i32 (-1))) (some x0) (some (.v (.int .i32 (-1))))) fun v1 =>
 gQ v1 true (qVal (some x0)) fun v2 =>
 gW v1 true H (ao env true (limf env) (limt env 0) H (⟨0,7,Heap.gen H 0 7,0⟩:Ref) (some (.fn (.func 108) [] [])) [v2]) fun v3 H1 =>
 gQ v1 true (qUn env.P .not (some v3)) fun v4 =>
 doQ (bj (some v1) (some v4) (some (.v (.bool false)))) fun v5 =>
 Q v5 H1
theorem tS:je=fun g x0 H Q=>wp env Try.f107 none 0 uh ur Q 500 [.code lA] (ofL g [(0,x0)]) H:=by kernel_rfl
theorem tZ (x0:AV) (H:Heap) (Q:AV→Heap→Prop) (h : ∀g,je g x0 H Q):GoL env Try.f107 0 [.code lA] [(0,x0)] H Q:=⟨fun g=>bn (by have h:=h g;rw [tS] at h;exact h)⟩
noncomputable def fP:Code:=(Try.f108.body).getD .skip
def nh:Nat→Option (List Nat):=fun i=>none
def nk:Nat→Bool:=fun i=>false
def fQ (g:Nat→AV) (x0:AV) (H:Heap) (Q:AV→Heap→Prop):Prop :=
 doQ (qBin env.P .leq 21 (.const (.int .i32 0)) (.tmp 4) (some (.v (.int .i32 0))) (some x0)) fun v1 =>
 gQ v1 true (qVal (some x0)) fun v2 =>
 gQ v1 true (qBin env.P .lss 21 (.tmp 7) (.const (.int .i32 55296)) (some v2) (some (.v (.int .i32 55296)))) fun v3 =>
 doQ (bj (some v1) (some v3) (some (.v (.bool false)))) fun v4 =>
 br (some v4) (
 Q (.v (.bool true)) H) (
 doQ (qBin env.P .lss 21 (.const (.int .i32 57343)) (.tmp 11) (some (.v (.int .i32 57343))) (some x0)) fun v5 =>
 gQ v5 true (qVal (some x0)) fun v6 =>
 gQ v5 true (qBin env.P .leq 21 (.tmp 14) (.const (.int .i32 1114111)) (some v6) (some (.v (.int .i32 1114111)))) fun v7 =>
 doQ (bj (some v5) (some v7) (some (.v (.bool false)))) fun v8 =>
 br (some v8) (
 Q (.v (.bool true)) H) (
 Q (.v (.bool false)) H))
theorem na:fQ=fun g x0 H Q=>wp env Try.f108 none 0 nh nk Q 500 [.code fP] (ofL g [(0,x0)]) H:=by kernel_rfl
theorem nf (x0:AV) (H:Heap) (Q:AV→Heap→Prop) (h : ∀g,fQ g x0 H Q):GoL env Try.f108 0 [.code fP] [(0,x0)] H Q:=⟨fun g=>bn (by have h:=h g;rw [na] at h;exact h)⟩
noncomputable def dy:Code:=(Try.f109.body).getD .skip
def iT:Nat→Option (List Nat):=fun i=>none
def iZ:Nat→Bool:=fun i=>false
def dA (g:Nat→AV) (x0 x1:AV) (H:Heap) (Q:AV→Heap→Prop):Prop :=
 doW (ao env true (limf env) (limt env 0) H (⟨0,7,Heap.gen H 0 7,0⟩:Ref) (some (.fn (.func 112) [] [])) [x0,x1]) fun v1 H1 =>
 doQ (qBin env.P .geq 3 (.tmp 7) (.const (.int .i64 0)) (some v1) (some (.v (.int .i64 0)))) fun v2 =>
 Q v2 H1
theorem iP:dA=fun g x0 x1 H Q=>wp env Try.f109 none 0 iT iZ Q 500 [.code dy] (ofL g [(0,x0),(1,x1)]) H:=by kernel_rfl
theorem iQ (x0 x1:AV) (H:Heap) (Q:AV→Heap→Prop) (h : ∀g,dA g x0 x1 H Q):GoL env Try.f109 0 [.code dy] [(0,x0),(1,x1)] H Q:=⟨fun g=>bn (by have h:=h g;rw [iP] at h;exact h)⟩
noncomputable def cT:Code:=(Try.f112.body).getD .skip
noncomputable def bP:List Item:=(ca 2 400 [.code cT]).getD []
def fI:Nat→Option (List Nat):=fun i=>cond (Nat.beq i 2) (some [8,0,1,7]) (none)
def fM:Nat→Bool:=fun i=>false
def dV (g:Nat→AV) (x0 x1:AV) (H:Heap) (Q:AV→Heap→Prop):Prop :=
 doQ (aC env.P false (Heap.get H) (⟨0,7,Heap.gen H 0 7,0⟩:Ref) .len #[40] [x0]) fun v1 =>
  GoL env Try.f112 0 bP [(8,(.v (.int .i64 0))),(0,x0),(1,x1),(7,v1)] H Q
theorem jB:dV=fun g x0 x1 H Q=>wp env Try.f112 none 0 fI fM Q 500 [.code cT] (ofL g [(0,x0),(1,x1)]) H:=by kernel_rfl
theorem jE (x0 x1:AV) (H:Heap) (Q:AV→Heap→Prop) (h : ∀g,dV g x0 x1 H Q):GoL env Try.f112 0 [.code cT] [(0,x0),(1,x1)] H Q:=⟨fun g=>bn (by have h:=h g;rw [jB] at h;exact h)⟩
def bQ (g:Nat→AV) (x8 x0 x1 x7:AV) (H:Heap) (Q:AV→Heap→Prop):Prop :=
 doQ (qBin env.P .lss 3 (.tmp 8) (.tmp 7) (some x8) (some x7)) fun v1 =>
 br (some v1) (
 doQ (ay env.P (Heap.get H) 40 (some x0) (some x8)) fun v2 =>
 doQ (aq env.P (Heap.get H) 21 (some v2)) fun v3 =>
 doW (ao env true (limf env) (limt env 0) H (⟨0,16,Heap.gen H 0 16,0⟩:Ref) (some x1) [v3]) fun v4 H1 =>
 br (some v4) (
 Q x8 H1) (
 doQ (qBin env.P .add 3 (.tmp 8) (.const (.int .i64 1)) (some x8) (some (.v (.int .i64 1)))) fun v5 =>
  GoL env Try.f112 0 bP [(8,v5),(0,x0),(1,x1),(7,x7)] H1 Q)) (
 Q (.v (.int .i64 (-1))) H)
theorem ji:bQ=fun g x8 x0 x1 x7 H Q=>wp env Try.f112 none 0 fI fM Q 500 (gf bP) (ofL g [(8,x8),(0,x0),(1,x1),(7,x7)]) H:=by kernel_rfl
theorem fg (x8 x0 x1 x7:AV) (H:Heap) (Q:AV→Heap→Prop) (h : ∀g,bQ g x8 x0 x1 x7 H Q):GoL env Try.f112 0 bP [(8,x8),(0,x0),(1,x1),(7,x7)] H Q:=dC fun g=>bn (by have h:=h g;rw [ji] at h;exact h)
noncomputable def jY:Code:=(Try.f72.body).getD .skip
noncomputable def jR:List Item:=(ca 2 400 [.code jY]).getD []
def sv:Nat→Option (List Nat):=fun i=>cond (Nat.beq i 2) (some [5,0,4]) (none)
def sF:Nat→Bool:=fun i=>false
def lW (g:Nat→AV) (x0 x1:AV) (H:Heap) (Q:AV→Heap→Prop):Prop :=
 doQ (qBin env.P .sub 3 (.tmp 6) (.const (.int .i64 1)) (some x1) (some (.v (.int .i64 1)))) fun v1 =>
  GoL env Try.f72 0 jR [(5,v1),(0,x0),(4,(.v (.slice none 0 0)))] H Q
theorem yE:lW=fun g x0 x1 H Q=>wp env Try.f72 none 0 sv sF Q 500 [.code jY] (ofL g [(0,x0),(1,x1)]) H:=by kernel_rfl
theorem rV (x0 x1:AV) (H:Heap) (Q:AV→Heap→Prop) (h : ∀g,lW g x0 x1 H Q):GoL env Try.f72 0 [.code jY] [(0,x0),(1,x1)] H Q:=⟨fun g=>bn (by have h:=h g;rw [yE] at h;exact h)⟩
def bR (g:Nat→AV) (x5 x0 x4:AV) (H:Heap) (Q:AV→Heap→Prop):Prop :=
 doQ (qBin env.P .geq 3 (.tmp 8) (.const (.int .i64 0)) (some x5) (some (.v (.int .i64 0)))) fun v1 =>
 br (some v1) (
 doQ (qBin env.P .mul 3 (.const (.int .i64 8)) (.tmp 14) (some (.v (.int .i64 8))) (some x5)) fun v2 =>
 doQ (qBin env.P .shr 3 (.tmp 13) (.tmp 15) (some x0) (some v2)) fun v3 =>
 doQ (aN env.P (Heap.get H) (⟨0,17,Heap.gen H 0 17,0⟩:Ref) 3 5 (some v3)) fun v4 =>
 doW (gb env.P false true H (⟨0,18,Heap.gen H 0 18,0⟩:Ref) 68 1 (some [(0,v4)])) fun v5 H1 =>
 doW (bH env.P true H1 (⟨0,19,Heap.gen H1 0 19,0⟩:Ref) (some 68) (some 68) x4 v5) fun v6 H2 =>
 doQ (qBin env.P .sub 3 (.tmp 10) (.const (.int .i64 1)) (some x5) (some (.v (.int .i64 1)))) fun v7 =>
  GoL env Try.f72 0 jR [(5,v7),(0,x0),(4,v6)] H2 Q) (
 Q x4 H)
theorem uY:bR=fun g x5 x0 x4 H Q=>wp env Try.f72 none 0 sv sF Q 500 (gf jR) (ofL g [(5,x5),(0,x0),(4,x4)]) H:=by kernel_rfl
theorem cu (x5 x0 x4:AV) (H:Heap) (Q:AV→Heap→Prop) (h : ∀g,bR g x5 x0 x4 H Q):GoL env Try.f72 0 jR [(5,x5),(0,x0),(4,x4)] H Q:=dC fun g=>bn (by have h:=h g;rw [uY] at h;exact h)
noncomputable def oP:Code:=(Try.f110.body).getD .skip
noncomputable def jQ:List Item:=(ca 2 400 [.code oP]).getD []
def vM:Nat→Option (List Nat):=fun i=>cond (Nat.beq i 2) (some [7,2,5,6]) (none)
def wg:Nat→Bool:=fun i=>false
def rK (g:Nat→AV) (x0:AV) (H:Heap) (Q:AV→Heap→Prop):Prop :=
 doQ (aC env.P false (Heap.get H) (⟨0,6,Heap.gen H 0 6,0⟩:Ref) .len #[68] [x0]) fun v1 =>
  GoL env Try.f110 0 jQ [(7,(.v (.int .i64 0))),(2,(.v (.int .i64 0))),(5,x0),(6,v1)] H Q
theorem BT:rK=fun g x0 H Q=>wp env Try.f110 none 0 vM wg Q 500 [.code oP] (ofL g [(0,x0)]) H:=by kernel_rfl
theorem B9 (x0:AV) (H:Heap) (Q:AV→Heap→Prop) (h : ∀g,rK g x0 H Q):GoL env Try.f110 0 [.code oP] [(0,x0)] H Q:=⟨fun g=>bn (by have h:=h g;rw [BT] at h;exact h)⟩
def lV (g:Nat→AV) (x7 x2 x5 x6:AV) (H:Heap) (Q:AV→Heap→Prop):Prop :=
 doQ (qBin env.P .lss 3 (.tmp 7) (.tmp 6) (some x7) (some x6)) fun v1 =>
 br (some v1) (
 doQ (ay env.P (Heap.get H) 68 (some x5) (some x7)) fun v2 =>
 doQ (aq env.P (Heap.get H) 5 (some v2)) fun v3 =>
 doQ (qBin env.P .shl 3 (.tmp 11) (.const (.int .u64 8)) (some x2) (some (.v (.int .u64 8)))) fun v4 =>
 doQ (aN env.P (Heap.get H) (⟨0,14,Heap.gen H 0 14,0⟩:Ref) 5 3 (some v3)) fun v5 =>
 doQ (qBin env.P .or 3 (.tmp 12) (.tmp 14) (some v4) (some v5)) fun v6 =>
 doQ (qBin env.P .add 3 (.tmp 7) (.const (.int .i64 1)) (some x7) (some (.v (.int .i64 1)))) fun v7 =>
  GoL env Try.f110 0 jQ [(7,v7),(2,v6),(5,x5),(6,x6)] H Q) (
 Q x2 H)
theorem yD:lV=fun g x7 x2 x5 x6 H Q=>wp env Try.f110 none 0 vM wg Q 500 (gf jQ) (ofL g [(7,x7),(2,x2),(5,x5),(6,x6)]) H:=by kernel_rfl
theorem rU (x7 x2 x5 x6:AV) (H:Heap) (Q:AV→Heap→Prop) (h : ∀g,lV g x7 x2 x5 x6 H Q):GoL env Try.f110 0 jQ [(7,x7),(2,x2),(5,x5),(6,x6)] H Q:=dC fun g=>bn (by have h:=h g;rw [yD] at h;exact h)
noncomputable def mX:Code:=(Try.f94.body).getD .skip
def AY:Nat→Option (List Nat):=fun i=>none
def Bp:Nat→Bool:=fun i=>false
def m0 (g:Nat→AV) (x0:AV) (H:Heap) (Q:AV→Heap→Prop):Prop :=
 doW (nRes H (⟨0,2,Heap.gen H 0 2,0⟩:Ref) (cC env.P (⟨0,2,Heap.gen H 0 2,0⟩:Ref) 162)) fun v1 H1 =>
 doQ (ay env.P (Heap.get H1) 68 (some x0) (some (.v (.int .i64 0)))) fun v2 =>
 doQ (aq env.P (Heap.get H1) 5 (some v2)) fun v3 =>
 doQ (bS env.P (Heap.get H1) 68 (some x0) (oi (.v (.int .i64 1))) (oi (.v (.int .i64 5))) (some none)) fun v4 =>
 doW (ao env false (limf env) (limt env 0) H1 (⟨0,9,Heap.gen H1 0 9,0⟩:Ref) (some (.fn (.func 110) [] [])) [v4]) fun v5 H2 =>
 doQ (aN env.P (Heap.get H2) (⟨0,10,Heap.gen H2 0 10,0⟩:Ref) 3 31 (some v5)) fun v6 =>
 doQ (bG env.P 33 (some [(0,v3),(1,v6)])) fun v7 =>
 doQ (ay env.P (Heap.get H2) 68 (some x0) (some (.v (.int .i64 5)))) fun v8 =>
 doQ (aq env.P (Heap.get H2) 5 (some v8)) fun v9 =>
 doQ (bG env.P 35 (some [(0,v7),(1,v9)])) fun v10 =>
 doQ (bG env.P 162 (some [(0,v10)])) fun v11 =>
 doW (nRes H2 (⟨0,3,Heap.gen H2 0 3,0⟩:Ref) (cC env.P (⟨0,3,Heap.gen H2 0 3,0⟩:Ref) 162)) fun v12 H3 =>
 doW (az env.P H3 162 (some v12) (some v11)) fun v13 H4 =>
 doQ (ae env.P 162 (some v12) 0) fun v14 =>
 doQ (aq env.P (Heap.get H4) 35 (some v14)) fun v15 =>
 doW (ao env true (limf env) (limt env 0) H4 (⟨0,19,Heap.gen H4 0 19,0⟩:Ref) (some (.fn (.func 71) [] [])) [v15]) fun v16 H5 =>
 doQ (ae env.P 162 (some v12) 1) fun v17 =>
 doW (az env.P H5 25 (some v17) (some v16)) fun v18 H6 =>
 doQ (aq env.P (Heap.get H6) 162 (some v12)) fun v19 =>
 doW (az env.P H6 162 (some v1) (some v19)) fun v20 H7 =>
 doQ (aG env.P H7 v1 162) fun v21 =>
 Q v21 H7
theorem Af:m0=fun g x0 H Q=>wp env Try.f94 none 0 AY Bp Q 500 [.code mX] (ofL g [(0,x0)]) H:=by kernel_rfl
theorem tu (x0:AV) (H:Heap) (Q:AV→Heap→Prop) (h : ∀g,m0 g x0 H Q):GoL env Try.f94 0 [.code mX] [(0,x0)] H Q:=⟨fun g=>bn (by have h:=h g;rw [Af] at h;exact h)⟩
noncomputable def lC:Code:=(Try.f81.body).getD .skip
def uj:Nat→Option (List Nat):=fun i=>none
def uv:Nat→Bool:=fun i=>false
def lE (g:Nat→AV) (x0:AV) (H:Heap) (Q:AV→Heap→Prop):Prop :=
 doW (nRes H (⟨0,2,Heap.gen H 0 2,0⟩:Ref) (cC env.P (⟨0,2,Heap.gen H 0 2,0⟩:Ref) 35)) fun v1 H1 =>
 doQ (aC env.P false (Heap.get H1) (⟨0,6,Heap.gen H1 0 6,0⟩:Ref) .len #[68] [x0]) fun v2 =>
 doQ (qBin env.P .neq 3 (.tmp 6) (.const (.int .i64 6)) (some v2) (some (.v (.int .i64 6)))) fun v3 =>
 br (some v3) (
 doQ (bG env.P 35 (some [])) fun v4 =>
 doW (az env.P H1 35 (some v1) (some v4)) fun v5 H2 =>
 doQ (aG env.P H2 v1 35) fun v6 =>
 Q (.tup [v6,(.v (.int .i64 8))]) H2) (
 doW (ao env true (limf env) (limt env 0) H1 (⟨0,10,Heap.gen H1 0 10,0⟩:Ref) (some (.fn (.func 94) [] [])) [x0]) fun v4 H2 =>
 doW (nRes H2 (⟨0,4,Heap.gen H2 0 4,0⟩:Ref) (cC env.P (⟨0,4,Heap.gen H2 0 4,0⟩:Ref) 162)) fun v5 H3 =>
 doW (az env.P H3 162 (some v5) (some v4)) fun v6 H4 =>
 doQ (ae env.P 162 (some v5) 1) fun v7 =>
 doQ (aq env.P (Heap.get H4) 25 (some v7)) fun v8 =>
 doQ (qBin env.P .neq 25 (.tmp 12) (.const (.int .i64 0)) (some v8) (some (.v (.int .i64 0)))) fun v9 =>
 br (some v9) (
 doQ (bG env.P 35 (some [])) fun v10 =>
 doQ (ae env.P 162 (some v5) 1) fun v11 =>
 doQ (aq env.P (Heap.get H4) 25 (some v11)) fun v12 =>
 doW (az env.P H4 35 (some v1) (some v10)) fun v13 H5 =>
  oa [(v11,v1)] [v1] [] H5 ∧
 (doQ (aG env.P H5 v1 35) fun v14 =>
 Q (.tup [v14,v12]) H5)) (
 doQ (ae env.P 162 (some v5) 0) fun v10 =>
 doQ (aq env.P (Heap.get H4) 35 (some v10)) fun v11 =>
 doW (az env.P H4 35 (some v1) (some v11)) fun v12 H5 =>
 doQ (aG env.P H5 v1 35) fun v13 =>
 Q (.tup [v13,(.v (.int .i64 0))]) H5))
theorem tX:lE=fun g x0 H Q=>wp env Try.f81 none 0 uj uv Q 500 [.code lC] (ofL g [(0,x0)]) H:=by kernel_rfl
theorem ud (x0:AV) (H:Heap) (Q:AV→Heap→Prop) (h : ∀g,lE g x0 H Q):GoL env Try.f81 0 [.code lC] [(0,x0)] H Q:=⟨fun g=>bn (by have h:=h g;rw [tX] at h;exact h)⟩
noncomputable def tj:Code:=(Try.f111.body).getD .skip
def E0:Nat→Option (List Nat):=fun i=>none
def Fk:Nat→Bool:=fun i=>false
def tq (g:Nat→AV) (x0:AV) (H:Heap) (Q:AV→Heap→Prop):Prop :=
 doW (nRes H (⟨0,2,Heap.gen H 0 2,0⟩:Ref) (cC env.P (⟨0,2,Heap.gen H 0 2,0⟩:Ref) 37)) fun v1 H1 =>
 doQ (aC env.P false (Heap.get H1) (⟨0,7,Heap.gen H1 0 7,0⟩:Ref) .len #[68] [x0]) fun v2 =>
 doQ (qBin env.P .neq 3 (.tmp 7) (.const (.int .i64 13)) (some v2) (some (.v (.int .i64 13)))) fun v3 =>
 br (some v3) (
 doQ (bG env.P 37 (some [])) fun v4 =>
 doW (az env.P H1 37 (some v1) (some v4)) fun v5 H2 =>
 doQ (aG env.P H2 v1 37) fun v6 =>
 Q (.tup [v6,(.v (.int .i64 8))]) H2) (
 doW (ao env false (limf env) (limt env 0) H1 (⟨0,11,Heap.gen H1 0 11,0⟩:Ref) (some (.fn (.func 94) [] [])) [x0]) fun v4 H2 =>
 doQ (qS env.P 162 (some v4) 0) fun v5 =>
 doQ (bS env.P (Heap.get H2) 68 (some x0) (oi (.v (.int .i64 6))) (some none) (some none)) fun v6 =>
 doW (ao env false (limf env) (limt env 0) H2 (⟨0,15,Heap.gen H2 0 15,0⟩:Ref) (some (.fn (.func 110) [] [])) [v6]) fun v7 H3 =>
 doQ (bG env.P 37 (some [(0,v5),(1,v7)])) fun v8 =>
 doW (nRes H3 (⟨0,4,Heap.gen H3 0 4,0⟩:Ref) (cC env.P (⟨0,4,Heap.gen H3 0 4,0⟩:Ref) 37)) fun v9 H4 =>
 doW (az env.P H4 37 (some v9) (some v8)) fun v10 H5 =>
 doQ (aq env.P (Heap.get H5) 37 (some v9)) fun v11 =>
 doW (ao env true (limf env) (limt env 0) H5 (⟨0,18,Heap.gen H5 0 18,0⟩:Ref) (some (.fn (.func 88) [] [])) [v11]) fun v12 H6 =>
 doQ (qBin env.P .neq 25 (.tmp 19) (.const (.int .i64 0)) (some v12) (some (.v (.int .i64 0)))) fun v13 =>
 br (some v13) (
 doQ (bG env.P 37 (some [])) fun v14 =>
 doW (az env.P H6 37 (some v1) (some v14)) fun v15 H7 =>
 doQ (aG env.P H7 v1 37) fun v16 =>
 Q (.tup [v16,v12]) H7) (
 doQ (aq env.P (Heap.get H6) 37 (some v9)) fun v14 =>
 doW (az env.P H6 37 (some v1) (some v14)) fun v15 H7 =>
 doQ (aG env.P H7 v1 37) fun v16 =>
 Q (.tup [v16,(.v (.int .i64 0))]) H7))
theorem Ew:tq=fun g x0 H Q=>wp env Try.f111 none 0 E0 Fk Q 500 [.code tj] (ofL g [(0,x0)]) H:=by kernel_rfl
theorem Ez (x0:AV) (H:Heap) (Q:AV→Heap→Prop) (h : ∀g,tq g x0 H Q):GoL env Try.f111 0 [.code tj] [(0,x0)] H Q:=⟨fun g=>bn (by have h:=h g;rw [Ew] at h;exact h)⟩
noncomputable def lB:Code:=(Try.f53.body).getD .skip
def ui:Nat→Option (List Nat):=fun i=>none
def uu:Nat→Bool:=fun i=>false
def jh (g:Nat→AV) (x0:AV) (H:Heap) (Q:AV→Heap→Prop):Prop :=
 doW (nRes H (⟨0,1,Heap.gen H 0 1,0⟩:Ref) (qBox env.P (⟨0,1,Heap.gen H 0 1,0⟩:Ref) 35 (some x0))) fun v1 H1 =>
 doQ (aq env.P (Heap.get H1) 35 (some v1)) fun v2 =>
 doW (ao env true (limf env) (limt env 0) H1 (⟨0,6,Heap.gen H1 0 6,0⟩:Ref) (some (.fn (.func 71) [] [])) [v2]) fun v3 H2 =>
 doQ (qBin env.P .neq 25 (.tmp 7) (.const (.int .i64 0)) (some v3) (some (.v (.int .i64 0)))) fun v4 =>
 br (some v4) (
 Q (.tup [(.v (.slice none 0 0)),v3]) H2) (
 doQ (ae env.P 35 (some v1) 0) fun v5 =>
 doQ (ae env.P 33 (some v5) 0) fun v6 =>
 doQ (aq env.P (Heap.get H2) 5 (some v6)) fun v7 =>
 doW (gb env.P true false H2 (⟨0,13,Heap.gen H2 0 13,0⟩:Ref) 68 1 (some [(0,v7)])) fun v8 H3 =>
 doQ (ae env.P 35 (some v1) 0) fun v9 =>
 doQ (ae env.P 33 (some v9) 1) fun v10 =>
 doQ (aq env.P (Heap.get H3) 31 (some v10)) fun v11 =>
 doQ (aN env.P (Heap.get H3) (⟨0,17,Heap.gen H3 0 17,0⟩:Ref) 31 3 (some v11)) fun v12 =>
 doW (ao env false (limf env) (limt env 0) H3 (⟨0,18,Heap.gen H3 0 18,0⟩:Ref) (some (.fn (.func 72) [] [])) [v12,(.v (.int .i64 4))]) fun v13 H4 =>
 doW (bH env.P false H4 (⟨0,19,Heap.gen H4 0 19,0⟩:Ref) (some 68) (some 68) v8 v13) fun v14 H5 =>
 doQ (ae env.P 35 (some v1) 1) fun v15 =>
 doQ (aq env.P (Heap.get H5) 5 (some v15)) fun v16 =>
 doW (gb env.P true false H5 (⟨0,22,Heap.gen H5 0 22,0⟩:Ref) 68 1 (some [(0,v16)])) fun v17 H6 =>
 doW (bH env.P true H6 (⟨0,23,Heap.gen H6 0 23,0⟩:Ref) (some 68) (some 68) v14 v17) fun v18 H7 =>
 Q (.tup [v18,(.v (.int .i64 0))]) H7)
theorem tW:jh=fun g x0 H Q=>wp env Try.f53 none 0 ui uu Q 500 [.code lB] (ofL g [(0,x0)]) H:=by kernel_rfl
theorem uc (x0:AV) (H:Heap) (Q:AV→Heap→Prop) (h : ∀g,jh g x0 H Q):GoL env Try.f53 0 [.code lB] [(0,x0)] H Q:=⟨fun g=>bn (by have h:=h g;rw [tW] at h;exact h)⟩
noncomputable def ti:Code:=(Try.f74.body).getD .skip
def EZ:Nat→Option (List Nat):=fun i=>none
def Fj:Nat→Bool:=fun i=>false
def qy (g:Nat→AV) (x0:AV) (H:Heap) (Q:AV→Heap→Prop):Prop :=
 doW (nRes H (⟨0,1,Heap.gen H 0 1,0⟩:Ref) (qBox env.P (⟨0,1,Heap.gen H 0 1,0⟩:Ref) 37 (some x0))) fun v1 H1 =>
 doQ (aq env.P (Heap.get H1) 37 (some v1)) fun v2 =>
 doW (ao env true (limf env) (limt env 0) H1 (⟨0,8,Heap.gen H1 0 8,0⟩:Ref) (some (.fn (.func 88) [] [])) [v2]) fun v3 H2 =>
 doQ (qBin env.P .neq 25 (.tmp 9) (.const (.int .i64 0)) (some v3) (some (.v (.int .i64 0)))) fun v4 =>
 br (some v4) (
 Q (.tup [(.v (.slice none 0 0)),v3]) H2) (
 doQ (ae env.P 37 (some v1) 0) fun v5 =>
 doQ (aq env.P (Heap.get H2) 35 (some v5)) fun v6 =>
 doW (ao env true (limf env) (limt env 0) H2 (⟨0,15,Heap.gen H2 0 15,0⟩:Ref) (some (.fn (.func 53) [] [])) [v6]) fun v7 H3 =>
 doQ (aw (some v7) 0) fun v8 =>
 doQ (aw (some v7) 1) fun v9 =>
 doQ (ae env.P 37 (some v1) 1) fun v10 =>
 doQ (aq env.P (Heap.get H3) 3 (some v10)) fun v11 =>
 doW (ao env true (limf env) (limt env 0) H3 (⟨0,21,Heap.gen H3 0 21,0⟩:Ref) (some (.fn (.func 72) [] [])) [v11,(.v (.int .i64 7))]) fun v12 H4 =>
 doW (bH env.P true H4 (⟨0,22,Heap.gen H4 0 22,0⟩:Ref) (some 68) (some 68) v8 v12) fun v13 H5 =>
 Q (.tup [v13,v9]) H5)
theorem Ev:qy=fun g x0 H Q=>wp env Try.f74 none 0 EZ Fj Q 500 [.code ti] (ofL g [(0,x0)]) H:=by kernel_rfl
theorem Ey (x0:AV) (H:Heap) (Q:AV→Heap→Prop) (h : ∀g,qy g x0 H Q):GoL env Try.f74 0 [.code ti] [(0,x0)] H Q:=⟨fun g=>bn (by have h:=h g;rw [Ev] at h;exact h)⟩
noncomputable def oR:Code:=(Try.f9.body).getD .skip
def zG:Nat→Option (List Nat):=fun i=>none
def zV:Nat→Bool:=fun i=>false
def iB (g:Nat→AV) (x0 x1:AV) (H:Heap) (Q:AV→Heap→Prop):Prop :=
 doW (nRes H (⟨0,2,Heap.gen H 0 2,0⟩:Ref) (qBox env.P (⟨0,2,Heap.gen H 0 2,0⟩:Ref) 24 (some x0))) fun v1 H1 =>
 doW (nRes H1 (⟨0,4,Heap.gen H1 0 4,0⟩:Ref) (cC env.P (⟨0,4,Heap.gen H1 0 4,0⟩:Ref) 24)) fun v2 H2 =>
 doQ (aq env.P (Heap.get H2) 24 (some v1)) fun v3 =>
 doW (ao env true (limf env) (limt env 0) H2 (⟨0,8,Heap.gen H2 0 8,0⟩:Ref) (some (.fn (.func 29) [] [])) [v3]) fun v4 H3 =>
 doQ (qBin env.P .neq 25 (.tmp 9) (.const (.int .i64 0)) (some v4) (some (.v (.int .i64 0)))) fun v5 =>
 br (some v5) (
 doQ (bG env.P 24 (some [])) fun v6 =>
 doW (az env.P H3 24 (some v2) (some v6)) fun v7 H4 =>
 doQ (aG env.P H4 v2 24) fun v8 =>
 Q (.tup [v8,v4]) H4) (
 doQ (qBin env.P .lss 3 (.tmp 14) (.const (.int .i64 (-1))) (some x1) (some (.v (.int .i64 (-1))))) fun v6 =>
 gQ v6 false (qVal (some x1)) fun v7 =>
 gQ v6 false (qBin env.P .geq 3 (.tmp 17) (.const (.int .i64 2147483648)) (some v7) (some (.v (.int .i64 2147483648)))) fun v8 =>
 doQ (bj (some v6) (some (.v (.bool true))) (some v8)) fun v9 =>
 br (some v9) (
 doQ (bG env.P 24 (some [])) fun v10 =>
 doW (az env.P H3 24 (some v2) (some v10)) fun v11 H4 =>
 doQ (aG env.P H4 v2 24) fun v12 =>
 Q (.tup [v12,(.v (.int .i64 2))]) H4) (
 doQ (ae env.P 24 (some v1) 1) fun v10 =>
 doQ (aq env.P (Heap.get H3) 3 (some v10)) fun v11 =>
 doQ (qBin env.P .add 3 (.tmp 23) (.const (.int .i64 1)) (some v11) (some (.v (.int .i64 1)))) fun v12 =>
 doQ (qBin env.P .geq 3 (.tmp 24) (.const (.int .i64 2147483648)) (some v12) (some (.v (.int .i64 2147483648)))) fun v13 =>
 br (some v13) (
 doQ (bG env.P 24 (some [])) fun v14 =>
 doW (az env.P H3 24 (some v2) (some v14)) fun v15 H4 =>
 doQ (aG env.P H4 v2 24) fun v16 =>
 Q (.tup [v16,(.v (.int .i64 9))]) H4) (
 doQ (aq env.P (Heap.get H3) 24 (some v1)) fun v14 =>
 doW (ao env true (limf env) (limt env 0) H3 (⟨0,28,Heap.gen H3 0 28,0⟩:Ref) (some (.fn (.func 30) [] [])) [v14]) fun v15 H4 =>
 doW (az env.P H4 24 (some v1) (some v15)) fun v16 H5 =>
 doQ (ae env.P 24 (some v1) 1) fun v17 =>
 doQ (aq env.P (Heap.get H5) 3 (some v17)) fun v18 =>
 doQ (qBin env.P .add 3 (.tmp 30) (.const (.int .i64 1)) (some v18) (some (.v (.int .i64 1)))) fun v19 =>
 doQ (ae env.P 24 (some v1) 1) fun v20 =>
 doW (az env.P H5 3 (some v20) (some v19)) fun v21 H6 =>
 doQ (ae env.P 24 (some v1) 2) fun v22 =>
 doW (az env.P H6 3 (some v22) (some x1)) fun v23 H7 =>
 doQ (ae env.P 24 (some v1) 3) fun v24 =>
 doW (az env.P H7 4 (some v24) (some (.v (.bool false)))) fun v25 H8 =>
 doQ (aq env.P (Heap.get H8) 24 (some v1)) fun v26 =>
 doW (az env.P H8 24 (some v2) (some v26)) fun v27 H9 =>
 doQ (aG env.P H9 v2 24) fun v28 =>
 Q (.tup [v28,(.v (.int .i64 0))]) H9)))
theorem yH:iB=fun g x0 x1 H Q=>wp env Try.f9 none 0 zG zV Q 500 [.code oR] (ofL g [(0,x0),(1,x1)]) H:=by kernel_rfl
theorem yV (x0 x1:AV) (H:Heap) (Q:AV→Heap→Prop) (h : ∀g,iB g x0 x1 H Q):GoL env Try.f9 0 [.code oR] [(0,x0),(1,x1)] H Q:=⟨fun g=>bn (by have h:=h g;rw [yH] at h;exact h)⟩
noncomputable def rG:Code:=(Try.f10.body).getD .skip
def CJ:Nat→Option (List Nat):=fun i=>none
def Da:Nat→Bool:=fun i=>false
def rM (g:Nat→AV) (H:Heap) (Q:AV→Heap→Prop):Prop :=
 doW (nRes H (⟨0,0,Heap.gen H 0 0,0⟩:Ref) (cC env.P (⟨0,0,Heap.gen H 0 0,0⟩:Ref) 24)) fun v1 H1 =>
 doQ (bG env.P 24 (some [(2,(.v (.int .i64 (-1))))])) fun v2 =>
 doW (az env.P H1 24 (some v1) (some v2)) fun v3 H2 =>
 doQ (aG env.P H2 v1 24) fun v4 =>
 Q v4 H2
theorem BW:rM=fun g  H Q=>wp env Try.f10 none 0 CJ Da Q 500 [.code rG] (ofL g []) H:=by kernel_rfl
theorem Cb (H:Heap) (Q:AV→Heap→Prop) (h : ∀g,rM g  H Q):GoL env Try.f10 0 [.code rG] [] H Q:=⟨fun g=>bn (by have h:=h g;rw [BW] at h;exact h)⟩
noncomputable def lR:Code:=(Try.f27.body).getD .skip
def zF:Nat→Option (List Nat):=fun i=>none
def zU:Nat→Bool:=fun i=>false
def dF (g:Nat→AV) (x0 x1 x2:AV) (H:Heap) (Q:AV→Heap→Prop):Prop :=
 doW (nRes H (⟨0,3,Heap.gen H 0 3,0⟩:Ref) (qBox env.P (⟨0,3,Heap.gen H 0 3,0⟩:Ref) 24 (some x0))) fun v1 H1 =>
 doW (nRes H1 (⟨0,6,Heap.gen H1 0 6,0⟩:Ref) (cC env.P (⟨0,6,Heap.gen H1 0 6,0⟩:Ref) 24)) fun v2 H2 =>
 doQ (aq env.P (Heap.get H2) 24 (some v1)) fun v3 =>
 doW (ao env true (limf env) (limt env 0) H2 (⟨0,13,Heap.gen H2 0 13,0⟩:Ref) (some (.fn (.func 40) [] [])) [v3,x1]) fun v4 H3 =>
 doQ (qBin env.P .neq 25 (.tmp 14) (.const (.int .i64 0)) (some v4) (some (.v (.int .i64 0)))) fun v5 =>
 br (some v5) (
 doQ (bG env.P 24 (some [])) fun v6 =>
 doW (az env.P H3 24 (some v2) (some v6)) fun v7 H4 =>
 doQ (aG env.P H4 v2 24) fun v8 =>
 Q (.tup [v8,v4]) H4) (
 doQ (aC env.P false (Heap.get H3) (⟨0,19,Heap.gen H3 0 19,0⟩:Ref) .len #[68] [x2]) fun v6 =>
 doQ (qBin env.P .neq 3 (.tmp 19) (.const (.int .i64 128)) (some v6) (some (.v (.int .i64 128)))) fun v7 =>
 br (some v7) (
 doQ (bG env.P 24 (some [])) fun v8 =>
 doW (az env.P H3 24 (some v2) (some v8)) fun v9 H4 =>
 doQ (aG env.P H4 v2 24) fun v10 =>
 Q (.tup [v10,(.v (.int .i64 2))]) H4) (
 doQ (aq env.P (Heap.get H3) 24 (some v1)) fun v8 =>
 doW (ao env true (limf env) (limt env 0) H3 (⟨0,23,Heap.gen H3 0 23,0⟩:Ref) (some (.fn (.func 30) [] [])) [v8]) fun v9 H4 =>
 doW (az env.P H4 24 (some v1) (some v9)) fun v10 H5 =>
 doQ (ae env.P 24 (some v1) 3) fun v11 =>
 doQ (aq env.P (Heap.get H5) 4 (some v11)) fun v12 =>
 gQ v12 false (ae env.P 24 (some v1) 2) fun v13 =>
 gQ v12 false (aq env.P (Heap.get H5) 3 (some v13)) fun v14 =>
 gQ v12 false (qBin env.P .eql 3 (.tmp 29) (.const (.int .i64 0)) (some v14) (some (.v (.int .i64 0)))) fun v15 =>
 doQ (bj (some v12) (some (.v (.bool true))) (some v15)) fun v16 =>
 br (some v16) (
 doQ (ae env.P 24 (some v1) 3) fun v17 =>
 doW (az env.P H5 4 (some v17) (some (.v (.bool true)))) fun v18 H6 =>
 doQ (aq env.P (Heap.get H6) 24 (some v1)) fun v19 =>
 doW (az env.P H6 24 (some v2) (some v19)) fun v20 H7 =>
 doQ (aG env.P H7 v2 24) fun v21 =>
 Q (.tup [v21,(.v (.int .i64 0))]) H7) (
 doQ (ae env.P 24 (some v1) 2) fun v17 =>
 doQ (aq env.P (Heap.get H5) 3 (some v17)) fun v18 =>
 doQ (qBin env.P .gtr 3 (.tmp 36) (.const (.int .i64 0)) (some v18) (some (.v (.int .i64 0)))) fun v19 =>
 br (some v19) (
 doQ (ae env.P 24 (some v1) 2) fun v20 =>
 doQ (aq env.P (Heap.get H5) 3 (some v20)) fun v21 =>
 doQ (qBin env.P .sub 3 (.tmp 39) (.const (.int .i64 1)) (some v21) (some (.v (.int .i64 1)))) fun v22 =>
 doQ (ae env.P 24 (some v1) 2) fun v23 =>
 doW (az env.P H5 3 (some v23) (some v22)) fun v24 H6 =>
 doQ (aq env.P (Heap.get H6) 24 (some v1)) fun v25 =>
 doW (ao env true (limf env) (limt env 0) H6 (⟨0,45,Heap.gen H6 0 45,0⟩:Ref) (some (.fn (.func 41) [] [])) [v25,x1]) fun v26 H7 =>
 doQ (aw (some v26) 0) fun v27 =>
 doQ (aw (some v26) 1) fun v28 =>
 doQ (qUn env.P .not (some v28)) fun v29 =>
 br (some v29) (
 doQ (ae env.P 24 (some v1) 0) fun v30 =>
 doQ (aq env.P (Heap.get H7) 22 (some v30)) fun v31 =>
 doQ (bG env.P 94 (some [(0,x1)])) fun v32 =>
 doW (gb env.P false true H7 (⟨0,55,Heap.gen H7 0 55,0⟩:Ref) 22 1 (some [(0,v32)])) fun v33 H8 =>
 doW (ao env true (limf env) (limt env 0) H8 (⟨0,56,Heap.gen H8 0 56,0⟩:Ref) (some (.fn (.func 42) [] [])) [v31,v27,v33]) fun v34 H9 =>
 doQ (ae env.P 24 (some v1) 0) fun v35 =>
 doW (az env.P H9 22 (some v35) (some v34)) fun v36 H10 =>
 doQ (ae env.P 24 (some v1) 0) fun v37 =>
 doQ (aq env.P (Heap.get H10) 22 (some v37)) fun v38 =>
 doW (ao env false (limf env) (limt env 0) H10 (⟨0,62,Heap.gen H10 0 62,0⟩:Ref) (some (.fn (.func 43) [] [])) [x2]) fun v39 H11 =>
 doQ (ay env.P (Heap.get H11) 22 (some v38) (some v27)) fun v40 =>
 doQ (ae env.P 94 (some v40) 1) fun v41 =>
 doW (az env.P H11 68 (some v41) (some v39)) fun v42 H12 =>
 doQ (aq env.P (Heap.get H12) 24 (some v1)) fun v43 =>
 doW (az env.P H12 24 (some v2) (some v43)) fun v44 H13 =>
 doQ (aG env.P H13 v2 24) fun v45 =>
 Q (.tup [v45,(.v (.int .i64 0))]) H13) (
 doQ (ae env.P 24 (some v1) 0) fun v30 =>
 doQ (aq env.P (Heap.get H7) 22 (some v30)) fun v31 =>
 doW (ao env false (limf env) (limt env 0) H7 (⟨0,62,Heap.gen H7 0 62,0⟩:Ref) (some (.fn (.func 43) [] [])) [x2]) fun v32 H8 =>
 doQ (ay env.P (Heap.get H8) 22 (some v31) (some v27)) fun v33 =>
 doQ (ae env.P 94 (some v33) 1) fun v34 =>
 doW (az env.P H8 68 (some v34) (some v32)) fun v35 H9 =>
 doQ (aq env.P (Heap.get H9) 24 (some v1)) fun v36 =>
 doW (az env.P H9 24 (some v2) (some v36)) fun v37 H10 =>
 doQ (aG env.P H10 v2 24) fun v38 =>
 Q (.tup [v38,(.v (.int .i64 0))]) H10)) (
 doQ (aq env.P (Heap.get H5) 24 (some v1)) fun v20 =>
 doW (ao env true (limf env) (limt env 0) H5 (⟨0,45,Heap.gen H5 0 45,0⟩:Ref) (some (.fn (.func 41) [] [])) [v20,x1]) fun v21 H6 =>
 doQ (aw (some v21) 0) fun v22 =>
 doQ (aw (some v21) 1) fun v23 =>
 doQ (qUn env.P .not (some v23)) fun v24 =>
 br (some v24) (
 doQ (ae env.P 24 (some v1) 0) fun v25 =>
 doQ (aq env.P (Heap.get H6) 22 (some v25)) fun v26 =>
 doQ (bG env.P 94 (some [(0,x1)])) fun v27 =>
 doW (gb env.P false true H6 (⟨0,55,Heap.gen H6 0 55,0⟩:Ref) 22 1 (some [(0,v27)])) fun v28 H7 =>
 doW (ao env true (limf env) (limt env 0) H7 (⟨0,56,Heap.gen H7 0 56,0⟩:Ref) (some (.fn (.func 42) [] [])) [v26,v22,v28]) fun v29 H8 =>
 doQ (ae env.P 24 (some v1) 0) fun v30 =>
 doW (az env.P H8 22 (some v30) (some v29)) fun v31 H9 =>
 doQ (ae env.P 24 (some v1) 0) fun v32 =>
 doQ (aq env.P (Heap.get H9) 22 (some v32)) fun v33 =>
 doW (ao env false (limf env) (limt env 0) H9 (⟨0,62,Heap.gen H9 0 62,0⟩:Ref) (some (.fn (.func 43) [] [])) [x2]) fun v34 H10 =>
 doQ (ay env.P (Heap.get H10) 22 (some v33) (some v22)) fun v35 =>
 doQ (ae env.P 94 (some v35) 1) fun v36 =>
 doW (az env.P H10 68 (some v36) (some v34)) fun v37 H11 =>
 doQ (aq env.P (Heap.get H11) 24 (some v1)) fun v38 =>
 doW (az env.P H11 24 (some v2) (some v38)) fun v39 H12 =>
 doQ (aG env.P H12 v2 24) fun v40 =>
 Q (.tup [v40,(.v (.int .i64 0))]) H12) (
 doQ (ae env.P 24 (some v1) 0) fun v25 =>
 doQ (aq env.P (Heap.get H6) 22 (some v25)) fun v26 =>
 doW (ao env false (limf env) (limt env 0) H6 (⟨0,62,Heap.gen H6 0 62,0⟩:Ref) (some (.fn (.func 43) [] [])) [x2]) fun v27 H7 =>
 doQ (ay env.P (Heap.get H7) 22 (some v26) (some v22)) fun v28 =>
 doQ (ae env.P 94 (some v28) 1) fun v29 =>
 doW (az env.P H7 68 (some v29) (some v27)) fun v30 H8 =>
 doQ (aq env.P (Heap.get H8) 24 (some v1)) fun v31 =>
 doW (az env.P H8 24 (some v2) (some v31)) fun v32 H9 =>
 doQ (aG env.P H9 v2 24) fun v33 =>
 Q (.tup [v33,(.v (.int .i64 0))]) H9)))))
theorem yG:dF=fun g x0 x1 x2 H Q=>wp env Try.f27 none 0 zF zU Q 500 [.code lR] (ofL g [(0,x0),(1,x1),(2,x2)]) H:=by kernel_rfl
theorem rX (x0 x1 x2:AV) (H:Heap) (Q:AV→Heap→Prop) (h : ∀g,dF g x0 x1 x2 H Q):GoL env Try.f27 0 [.code lR] [(0,x0),(1,x1),(2,x2)] H Q:=⟨fun g=>bn (by have h:=h g;rw [yG] at h;exact h)⟩
noncomputable def lS:Code:=(Try.f29.body).getD .skip
noncomputable def ir:List Item:=(ca 3 400 [.code lS]).getD []
def sx:Nat→Option (List Nat):=fun i=>cond (Nat.beq i 3) (some [9,3,7,1,8]) (none)
def sH:Nat→Bool:=fun i=>false
def oY (g:Nat→AV) (x0:AV) (H:Heap) (Q:AV→Heap→Prop):Prop :=
 doW (nRes H (⟨0,1,Heap.gen H 0 1,0⟩:Ref) (qBox env.P (⟨0,1,Heap.gen H 0 1,0⟩:Ref) 24 (some x0))) fun v1 H1 =>
 doQ (ae env.P 24 (some v1) 0) fun v2 =>
 doQ (aq env.P (Heap.get H1) 22 (some v2)) fun v3 =>
 doQ (aC env.P false (Heap.get H1) (⟨0,8,Heap.gen H1 0 8,0⟩:Ref) .len #[22] [v3]) fun v4 =>
  GoL env Try.f29 0 ir [(9,(.v (.int .i64 0))),(3,(.v (.int .i64 (-1)))),(7,v3),(1,v1),(8,v4)] H1 Q
theorem yI:oY=fun g x0 H Q=>wp env Try.f29 none 0 sx sH Q 500 [.code lS] (ofL g [(0,x0)]) H:=by kernel_rfl
theorem yW (x0:AV) (H:Heap) (Q:AV→Heap→Prop) (h : ∀g,oY g x0 H Q):GoL env Try.f29 0 [.code lS] [(0,x0)] H Q:=⟨fun g=>bn (by have h:=h g;rw [yI] at h;exact h)⟩
def j5 (g:Nat→AV) (x9 x3 x7 x1 x8:AV) (H:Heap) (Q:AV→Heap→Prop):Prop :=
 doQ (qBin env.P .lss 3 (.tmp 9) (.tmp 8) (some x9) (some x8)) fun v1 =>
 br (some v1) (
 doQ (ay env.P (Heap.get H) 22 (some x7) (some x9)) fun v2 =>
 doQ (aq env.P (Heap.get H) 94 (some v2)) fun v3 =>
 doW (nRes H (⟨0,5,Heap.gen H 0 5,0⟩:Ref) (cC env.P (⟨0,5,Heap.gen H 0 5,0⟩:Ref) 94)) fun v4 H1 =>
 doW (az env.P H1 94 (some v4) (some v3)) fun v5 H2 =>
 doQ (ae env.P 94 (some v4) 0) fun v6 =>
 doQ (aq env.P (Heap.get H2) 3 (some v6)) fun v7 =>
 doQ (qBin env.P .leq 3 (.tmp 14) (.tmp 15) (some v7) (some x3)) fun v8 =>
 gQ v8 false (ae env.P 94 (some v4) 0) fun v9 =>
 gQ v8 false (aq env.P (Heap.get H2) 3 (some v9)) fun v10 =>
 gQ v8 false (qBin env.P .geq 3 (.tmp 19) (.const (.int .i64 6146)) (some v10) (some (.v (.int .i64 6146)))) fun v11 =>
 doQ (bj (some v8) (some (.v (.bool true))) (some v11)) fun v12 =>
 gQ v12 false (ae env.P 94 (some v4) 1) fun v13 =>
 gQ v12 false (aq env.P (Heap.get H2) 68 (some v13)) fun v14 =>
 gQ v12 false (aC env.P false (Heap.get H2) (⟨0,25,Heap.gen H2 0 25,0⟩:Ref) .len #[68] [v14]) fun v15 =>
 gQ v12 false (qBin env.P .neq 3 (.tmp 25) (.const (.int .i64 128)) (some v15) (some (.v (.int .i64 128)))) fun v16 =>
 doQ (bj (some v12) (some (.v (.bool true))) (some v16)) fun v17 =>
 br (some v17) (
 Q (.v (.int .i64 8)) H2) (
 doQ (ae env.P 94 (some v4) 0) fun v18 =>
 doQ (aq env.P (Heap.get H2) 3 (some v18)) fun v19 =>
 doQ (qBin env.P .add 3 (.tmp 9) (.const (.int .i64 1)) (some x9) (some (.v (.int .i64 1)))) fun v20 =>
  GoL env Try.f29 0 ir [(9,v20),(3,v19),(7,x7),(1,x1),(8,x8)] H2 Q)) (
 doQ (ae env.P 24 (some x1) 1) fun v2 =>
 doQ (aq env.P (Heap.get H) 3 (some v2)) fun v3 =>
 doQ (qBin env.P .lss 3 (.tmp 32) (.const (.int .i64 0)) (some v3) (some (.v (.int .i64 0)))) fun v4 =>
 gQ v4 false (ae env.P 24 (some x1) 1) fun v5 =>
 gQ v4 false (aq env.P (Heap.get H) 3 (some v5)) fun v6 =>
 gQ v4 false (qBin env.P .geq 3 (.tmp 36) (.const (.int .i64 2147483648)) (some v6) (some (.v (.int .i64 2147483648)))) fun v7 =>
 doQ (bj (some v4) (some (.v (.bool true))) (some v7)) fun v8 =>
 gQ v8 false (ae env.P 24 (some x1) 2) fun v9 =>
 gQ v8 false (aq env.P (Heap.get H) 3 (some v9)) fun v10 =>
 gQ v8 false (qBin env.P .lss 3 (.tmp 41) (.const (.int .i64 (-1))) (some v10) (some (.v (.int .i64 (-1))))) fun v11 =>
 doQ (bj (some v8) (some (.v (.bool true))) (some v11)) fun v12 =>
 gQ v12 false (ae env.P 24 (some x1) 2) fun v13 =>
 gQ v12 false (aq env.P (Heap.get H) 3 (some v13)) fun v14 =>
 gQ v12 false (qBin env.P .geq 3 (.tmp 46) (.const (.int .i64 2147483648)) (some v14) (some (.v (.int .i64 2147483648)))) fun v15 =>
 doQ (bj (some v12) (some (.v (.bool true))) (some v15)) fun v16 =>
 gQ v16 false (ae env.P 24 (some x1) 3) fun v17 =>
 gQ v16 false (aq env.P (Heap.get H) 4 (some v17)) fun v18 =>
 gQ v16 false (qVal (some v18)) fun v19 =>
 gQ v19 true (ae env.P 24 (some x1) 2) fun v20 =>
 gQ v19 true (aq env.P (Heap.get H) 3 (some v20)) fun v21 =>
 gQ v19 true (qBin env.P .neq 3 (.tmp 54) (.const (.int .i64 0)) (some v21) (some (.v (.int .i64 0)))) fun v22 =>
 gQ v16 false (bj (some v19) (some v22) (some (.v (.bool false)))) fun v23 =>
 doQ (bj (some v16) (some (.v (.bool true))) (some v23)) fun v24 =>
 br (some v24) (
 Q (.v (.int .i64 8)) H) (
 Q (.v (.int .i64 0)) H))
theorem uZ:j5=fun g x9 x3 x7 x1 x8 H Q=>wp env Try.f29 none 0 sx sH Q 500 (gf ir) (ofL g [(9,x9),(3,x3),(7,x7),(1,x1),(8,x8)]) H:=by kernel_rfl
theorem pv (x9 x3 x7 x1 x8:AV) (H:Heap) (Q:AV→Heap→Prop) (h : ∀g,j5 g x9 x3 x7 x1 x8 H Q):GoL env Try.f29 0 ir [(9,x9),(3,x3),(7,x7),(1,x1),(8,x8)] H Q:=dC fun g=>bn (by have h:=h g;rw [uZ] at h;exact h)
noncomputable def mY:Code:=(Try.f30.body).getD .skip
noncomputable def iX:List Item:=(ca 3 400 [.code mY]).getD []
def tG:Nat→Option (List Nat):=fun i=>cond (Nat.beq i 3) (some [10,3,2,1,9]) (none)
def tN:Nat→Bool:=fun i=>false
def kZ (g:Nat→AV) (x0:AV) (H:Heap) (Q:AV→Heap→Prop):Prop :=
 doW (nRes H (⟨0,1,Heap.gen H 0 1,0⟩:Ref) (qBox env.P (⟨0,1,Heap.gen H 0 1,0⟩:Ref) 24 (some x0))) fun v1 H1 =>
 doW (nRes H1 (⟨0,2,Heap.gen H1 0 2,0⟩:Ref) (cC env.P (⟨0,2,Heap.gen H1 0 2,0⟩:Ref) 24)) fun v2 H2 =>
 doQ (ae env.P 24 (some v1) 0) fun v3 =>
 doQ (aq env.P (Heap.get H2) 22 (some v3)) fun v4 =>
 doW (ao env true (limf env) (limt env 0) H2 (⟨0,7,Heap.gen H2 0 7,0⟩:Ref) (some (.fn (.func 44) [] [])) [v4]) fun v5 H3 =>
 doQ (aC env.P false (Heap.get H3) (⟨0,9,Heap.gen H3 0 9,0⟩:Ref) .len #[22] [v5]) fun v6 =>
  GoL env Try.f30 0 iX [(10,(.v (.int .i64 0))),(3,v5),(2,v2),(1,v1),(9,v6)] H3 Q
theorem Ak:kZ=fun g x0 H Q=>wp env Try.f30 none 0 tG tN Q 500 [.code mY] (ofL g [(0,x0)]) H:=by kernel_rfl
theorem Au (x0:AV) (H:Heap) (Q:AV→Heap→Prop) (h : ∀g,kZ g x0 H Q):GoL env Try.f30 0 [.code mY] [(0,x0)] H Q:=⟨fun g=>bn (by have h:=h g;rw [Ak] at h;exact h)⟩
def gV (g:Nat→AV) (x10 x3 x2 x1 x9:AV) (H:Heap) (Q:AV→Heap→Prop):Prop :=
 doQ (qBin env.P .lss 3 (.tmp 10) (.tmp 9) (some x10) (some x9)) fun v1 =>
 br (some v1) (
 doQ (ay env.P (Heap.get H) 22 (some x3) (some x10)) fun v2 =>
 doQ (ae env.P 94 (some v2) 1) fun v3 =>
 doQ (aq env.P (Heap.get H) 68 (some v3)) fun v4 =>
 doW (ao env true (limf env) (limt env 0) H (⟨0,20,Heap.gen H 0 20,0⟩:Ref) (some (.fn (.func 43) [] [])) [v4]) fun v5 H1 =>
 doQ (ay env.P (Heap.get H1) 22 (some x3) (some x10)) fun v6 =>
 doQ (ae env.P 94 (some v6) 1) fun v7 =>
 doW (az env.P H1 68 (some v7) (some v5)) fun v8 H2 =>
 doQ (qBin env.P .add 3 (.tmp 10) (.const (.int .i64 1)) (some x10) (some (.v (.int .i64 1)))) fun v9 =>
  GoL env Try.f30 0 iX [(10,v9),(3,x3),(2,x2),(1,x1),(9,x9)] H2 Q) (
 doQ (ae env.P 24 (some x1) 0) fun v2 =>
 doW (az env.P H 22 (some v2) (some x3)) fun v3 H1 =>
 doQ (aq env.P (Heap.get H1) 24 (some x1)) fun v4 =>
 doW (az env.P H1 24 (some x2) (some v4)) fun v5 H2 =>
 doQ (aG env.P H2 x2 24) fun v6 =>
 Q v6 H2)
theorem wN:gV=fun g x10 x3 x2 x1 x9 H Q=>wp env Try.f30 none 0 tG tN Q 500 (gf iX) (ofL g [(10,x10),(3,x3),(2,x2),(1,x1),(9,x9)]) H:=by kernel_rfl
theorem kB (x10 x3 x2 x1 x9:AV) (H:Heap) (Q:AV→Heap→Prop) (h : ∀g,gV g x10 x3 x2 x1 x9 H Q):GoL env Try.f30 0 iX [(10,x10),(3,x3),(2,x2),(1,x1),(9,x9)] H Q:=dC fun g=>bn (by have h:=h g;rw [wN] at h;exact h)
noncomputable def oQ:Code:=(Try.f40.body).getD .skip
def zE:Nat→Option (List Nat):=fun i=>none
def zT:Nat→Bool:=fun i=>false
def lX (g:Nat→AV) (x0 x1:AV) (H:Heap) (Q:AV→Heap→Prop):Prop :=
 doW (nRes H (⟨0,2,Heap.gen H 0 2,0⟩:Ref) (qBox env.P (⟨0,2,Heap.gen H 0 2,0⟩:Ref) 24 (some x0))) fun v1 H1 =>
 doQ (aq env.P (Heap.get H1) 24 (some v1)) fun v2 =>
 doW (ao env true (limf env) (limt env 0) H1 (⟨0,7,Heap.gen H1 0 7,0⟩:Ref) (some (.fn (.func 29) [] [])) [v2]) fun v3 H2 =>
 doQ (qBin env.P .neq 25 (.tmp 8) (.const (.int .i64 0)) (some v3) (some (.v (.int .i64 0)))) fun v4 =>
 br (some v4) (
 Q v3 H2) (
 doQ (qBin env.P .lss 3 (.tmp 11) (.const (.int .i64 0)) (some x1) (some (.v (.int .i64 0)))) fun v5 =>
 gQ v5 false (qVal (some x1)) fun v6 =>
 gQ v5 false (qBin env.P .geq 3 (.tmp 14) (.const (.int .i64 6146)) (some v6) (some (.v (.int .i64 6146)))) fun v7 =>
 doQ (bj (some v5) (some (.v (.bool true))) (some v7)) fun v8 =>
 br (some v8) (
 Q (.v (.int .i64 2)) H2) (
 Q (.v (.int .i64 0)) H2))
theorem yF:lX=fun g x0 x1 H Q=>wp env Try.f40 none 0 zE zT Q 500 [.code oQ] (ofL g [(0,x0),(1,x1)]) H:=by kernel_rfl
theorem yU (x0 x1:AV) (H:Heap) (Q:AV→Heap→Prop) (h : ∀g,lX g x0 x1 H Q):GoL env Try.f40 0 [.code oQ] [(0,x0),(1,x1)] H Q:=⟨fun g=>bn (by have h:=h g;rw [yF] at h;exact h)⟩
noncomputable def pR:Code:=(Try.f41.body).getD .skip
def A9:Nat→Option (List Nat):=fun i=>none
def Bt:Nat→Bool:=fun i=>false
def pY (g:Nat→AV) (x0 x1:AV) (H:Heap) (Q:AV→Heap→Prop):Prop :=
 doW (nRes H (⟨0,2,Heap.gen H 0 2,0⟩:Ref) (qBox env.P (⟨0,2,Heap.gen H 0 2,0⟩:Ref) 24 (some x0))) fun v1 H1 =>
 doQ (ae env.P 24 (some v1) 0) fun v2 =>
 doQ (aq env.P (Heap.get H1) 22 (some v2)) fun v3 =>
 doW (ao env true (limf env) (limt env 0) H1 (⟨0,9,Heap.gen H1 0 9,0⟩:Ref) (some (.fn (.func 59) [] [])) [v3,x1,(.fn (.func 60) [] [])]) fun v4 H2 =>
 doQ (aw (some v4) 0) fun v5 =>
 doQ (aw (some v4) 1) fun v6 =>
 Q (.tup [v5,v6]) H2
theorem Aj:pY=fun g x0 x1 H Q=>wp env Try.f41 none 0 A9 Bt Q 500 [.code pR] (ofL g [(0,x0),(1,x1)]) H:=by kernel_rfl
theorem At (x0 x1:AV) (H:Heap) (Q:AV→Heap→Prop) (h : ∀g,pY g x0 x1 H Q):GoL env Try.f41 0 [.code pR] [(0,x0),(1,x1)] H Q:=⟨fun g=>bn (by have h:=h g;rw [Aj] at h;exact h)⟩
noncomputable def rF:Code:=(Try.f43.body).getD .skip
def CI:Nat→Option (List Nat):=fun i=>none
def C9:Nat→Bool:=fun i=>false
def rL (g:Nat→AV) (x0:AV) (H:Heap) (Q:AV→Heap→Prop):Prop :=
 doQ (aC env.P false (Heap.get H) (⟨0,5,Heap.gen H 0 5,0⟩:Ref) .len #[68] [x0]) fun v1 =>
 doW (nRes H (⟨0,6,Heap.gen H 0 6,0⟩:Ref) (rj env.P (⟨0,6,Heap.gen H 0 6,0⟩:Ref) 68 (some v1) (some v1))) fun v2 H1 =>
 doW (sL env.P H1 (some 68) v2 x0) fun v3 H2 =>
 Q v2 H2
theorem BU:rL=fun g x0 H Q=>wp env Try.f43 none 0 CI C9 Q 500 [.code rF] (ofL g [(0,x0)]) H:=by kernel_rfl
theorem Ca (x0:AV) (H:Heap) (Q:AV→Heap→Prop) (h : ∀g,rL g x0 H Q):GoL env Try.f43 0 [.code rF] [(0,x0)] H Q:=⟨fun g=>bn (by have h:=h g;rw [BU] at h;exact h)⟩
noncomputable def aL:Code:=(Try.f44.body).getD .skip
def eb:Nat→Option (List Nat):=fun i=>none
def ed:Nat→Bool:=fun i=>false
def aM (g:Nat→AV) (x0:AV) (H:Heap) (Q:AV→Heap→Prop):Prop :=
 doQ (qBin env.P .eql 22 (.tmp 3) (.const (.slice none 0 0)) (some x0) (some (.v (.slice none 0 0)))) fun v1 =>
 br (some v1) (
 Q (.v (.slice none 0 0)) H) (
 doW (gb env.P false true H (⟨0,5,Heap.gen H 0 5,0⟩:Ref) 22 0 (some [])) fun v2 H1 =>
 doW (bH env.P true H1 (⟨0,7,Heap.gen H1 0 7,0⟩:Ref) (some 22) (some 22) v2 x0) fun v3 H2 =>
 Q v3 H2)
theorem dY:aM=fun g x0 H Q=>wp env Try.f44 none 0 eb ed Q 500 [.code aL] (ofL g [(0,x0)]) H:=by kernel_rfl
theorem bo (x0:AV) (H:Heap) (Q:AV→Heap→Prop) (h : ∀g,aM g x0 H Q):GoL env Try.f44 0 [.code aL] [(0,x0)] H Q:=⟨fun g=>bn (by have h:=h g;rw [dY] at h;exact h)⟩
noncomputable def pS:Code:=(Try.f49.body).getD .skip
def Ba:Nat→Option (List Nat):=fun i=>none
def Bu:Nat→Bool:=fun i=>false
def jx (g:Nat→AV) (x0 x1:AV) (H:Heap) (Q:AV→Heap→Prop):Prop :=
 doW (nRes H (⟨0,2,Heap.gen H 0 2,0⟩:Ref) (qBox env.P (⟨0,2,Heap.gen H 0 2,0⟩:Ref) 24 (some x0))) fun v1 H1 =>
 doQ (aq env.P (Heap.get H1) 24 (some v1)) fun v2 =>
 doW (ao env true (limf env) (limt env 0) H1 (⟨0,11,Heap.gen H1 0 11,0⟩:Ref) (some (.fn (.func 40) [] [])) [v2,x1]) fun v3 H2 =>
 doQ (qBin env.P .neq 25 (.tmp 12) (.const (.int .i64 0)) (some v3) (some (.v (.int .i64 0)))) fun v4 =>
 br (some v4) (
 Q (.tup [(.v (.slice none 0 0)),v3]) H2) (
 doQ (aq env.P (Heap.get H2) 24 (some v1)) fun v5 =>
 doW (ao env true (limf env) (limt env 0) H2 (⟨0,18,Heap.gen H2 0 18,0⟩:Ref) (some (.fn (.func 41) [] [])) [v5,x1]) fun v6 H3 =>
 doQ (aw (some v6) 0) fun v7 =>
 doQ (aw (some v6) 1) fun v8 =>
 doQ (qUn env.P .not (some v8)) fun v9 =>
 br (some v9) (
 doW (nRes H3 (⟨0,23,Heap.gen H3 0 23,0⟩:Ref) (rj env.P (⟨0,23,Heap.gen H3 0 23,0⟩:Ref) 68 (some (.v (.int .i64 128))) (some (.v (.int .i64 128))))) fun v10 H4 =>
 Q (.tup [v10,(.v (.int .i64 0))]) H4) (
 doQ (ae env.P 24 (some v1) 0) fun v10 =>
 doQ (aq env.P (Heap.get H3) 22 (some v10)) fun v11 =>
 doQ (ay env.P (Heap.get H3) 22 (some v11) (some v7)) fun v12 =>
 doQ (ae env.P 94 (some v12) 1) fun v13 =>
 doQ (aq env.P (Heap.get H3) 68 (some v13)) fun v14 =>
 doW (ao env true (limf env) (limt env 0) H3 (⟨0,30,Heap.gen H3 0 30,0⟩:Ref) (some (.fn (.func 43) [] [])) [v14]) fun v15 H4 =>
 Q (.tup [v15,(.v (.int .i64 0))]) H4))
theorem Al:jx=fun g x0 x1 H Q=>wp env Try.f49 none 0 Ba Bu Q 500 [.code pS] (ofL g [(0,x0),(1,x1)]) H:=by kernel_rfl
theorem Av (x0 x1:AV) (H:Heap) (Q:AV→Heap→Prop) (h : ∀g,jx g x0 x1 H Q):GoL env Try.f49 0 [.code pS] [(0,x0),(1,x1)] H Q:=⟨fun g=>bn (by have h:=h g;rw [Al] at h;exact h)⟩
noncomputable def aJ:Code:=(Try.f59.body).getD .skip
noncomputable def ax:List Item:=(ca 3 400 [.code aJ]).getD []
def bA:Nat→Option (List Nat):=fun i=>cond (Nat.beq i 3) (some [1,0,2,10,9,8]) (none)
def bB:Nat→Bool:=fun i=>false
def aX (g:Nat→AV) (x0 x1 x2:AV) (H:Heap) (Q:AV→Heap→Prop):Prop :=
 doQ (aC env.P false (Heap.get H) (⟨0,13,Heap.gen H 0 13,0⟩:Ref) .len #[22] [x0]) fun v1 =>
  GoL env Try.f59 0 ax [(1,x1),(0,x0),(2,x2),(10,v1),(9,(.v (.int .i64 0))),(8,v1)] H Q
theorem cW:aX=fun g x0 x1 x2 H Q=>wp env Try.f59 none 0 bA bB Q 500 [.code aJ] (ofL g [(0,x0),(1,x1),(2,x2)]) H:=by kernel_rfl
theorem cX (x0 x1 x2:AV) (H:Heap) (Q:AV→Heap→Prop) (h : ∀g,aX g x0 x1 x2 H Q):GoL env Try.f59 0 [.code aJ] [(0,x0),(1,x1),(2,x2)] H Q:=⟨fun g=>bn (by have h:=h g;rw [cW] at h;exact h)⟩
def aE (g:Nat→AV) (x1 x0 x2 x10 x9 x8:AV) (H:Heap) (Q:AV→Heap→Prop):Prop :=
 doQ (qBin env.P .lss 3 (.tmp 15) (.tmp 16) (some x9) (some x10)) fun v1 =>
 br (some v1) (
 doQ (qBin env.P .add 3 (.tmp 18) (.tmp 19) (some x9) (some x10)) fun v2 =>
 doQ (aN env.P (Heap.get H) (⟨0,21,Heap.gen H 0 21,0⟩:Ref) 3 119 (some v2)) fun v3 =>
 doQ (qBin env.P .shr 119 (.tmp 21) (.const (.int .u64 1)) (some v3) (some (.v (.int .u64 1)))) fun v4 =>
 doQ (aN env.P (Heap.get H) (⟨0,23,Heap.gen H 0 23,0⟩:Ref) 119 3 (some v4)) fun v5 =>
 doQ (ay env.P (Heap.get H) 22 (some x0) (some v5)) fun v6 =>
 doQ (aq env.P (Heap.get H) 94 (some v6)) fun v7 =>
 doW (ao env true (limf env) (limt env 0) H (⟨0,30,Heap.gen H 0 30,0⟩:Ref) (some x2) [v7,x1]) fun v8 H1 =>
 doQ (qBin env.P .lss 3 (.tmp 30) (.const (.int .i64 0)) (some v8) (some (.v (.int .i64 0)))) fun v9 =>
 br (some v9) (
 doQ (qBin env.P .add 3 (.tmp 32) (.const (.int .i64 1)) (some v5) (some (.v (.int .i64 1)))) fun v10 =>
  GoL env Try.f59 0 ax [(1,x1),(0,x0),(2,x2),(10,x10),(9,v10),(8,x8)] H1 Q) (
  GoL env Try.f59 0 ax [(1,x1),(0,x0),(2,x2),(10,v5),(9,x9),(8,x8)] H1 Q)) (
 doQ (qBin env.P .lss 3 (.tmp 36) (.tmp 37) (some x9) (some x8)) fun v2 =>
 gQ v2 true (qVal (some x2)) fun v3 =>
 gQ v2 true (qVal (some x0)) fun v4 =>
 gQ v2 true (qVal (some x9)) fun v5 =>
 gQ v2 true (ay env.P (Heap.get H) 22 (some v4) (some v5)) fun v6 =>
 gQ v2 true (aq env.P (Heap.get H) 94 (some v6)) fun v7 =>
 gQ v2 true (qVal (some x1)) fun v8 =>
 gW v2 true H (ao env true (limf env) (limt env 0) H (⟨0,46,Heap.gen H 0 46,0⟩:Ref) (some v3) [v7,v8]) fun v9 H1 =>
 gQ v2 true (qBin env.P .eql 3 (.tmp 46) (.const (.int .i64 0)) (some v9) (some (.v (.int .i64 0)))) fun v10 =>
 doQ (bj (some v2) (some v10) (some (.v (.bool false)))) fun v11 =>
 Q (.tup [x9,v11]) H1)
theorem cO:aE=fun g x1 x0 x2 x10 x9 x8 H Q=>wp env Try.f59 none 0 bA bB Q 500 (gf ax) (ofL g [(1,x1),(0,x0),(2,x2),(10,x10),(9,x9),(8,x8)]) H:=by kernel_rfl
theorem bw (x1 x0 x2 x10 x9 x8:AV) (H:Heap) (Q:AV→Heap→Prop) (h : ∀g,aE g x1 x0 x2 x10 x9 x8 H Q):GoL env Try.f59 0 ax [(1,x1),(0,x0),(2,x2),(10,x10),(9,x9),(8,x8)] H Q:=dC fun g=>bn (by have h:=h g;rw [cO] at h;exact h)
noncomputable def ny:Code:=(Try.f60.body).getD .skip
def xh:Nat→Option (List Nat):=fun i=>none
def xw:Nat→Bool:=fun i=>false
def nF (g:Nat→AV) (x0 x1:AV) (H:Heap) (Q:AV→Heap→Prop):Prop :=
 doW (nRes H (⟨0,2,Heap.gen H 0 2,0⟩:Ref) (qBox env.P (⟨0,2,Heap.gen H 0 2,0⟩:Ref) 94 (some x0))) fun v1 H1 =>
 doQ (ae env.P 94 (some v1) 0) fun v2 =>
 doQ (aq env.P (Heap.get H1) 3 (some v2)) fun v3 =>
 doW (ao env true (limf env) (limt env 0) H1 (⟨0,8,Heap.gen H1 0 8,0⟩:Ref) (some (.fn (.func 61) [] [])) [v3,x1]) fun v4 H2 =>
 Q v4 H2
theorem wM:nF=fun g x0 x1 H Q=>wp env Try.f60 none 0 xh xw Q 500 [.code ny] (ofL g [(0,x0),(1,x1)]) H:=by kernel_rfl
theorem wX (x0 x1:AV) (H:Heap) (Q:AV→Heap→Prop) (h : ∀g,nF g x0 x1 H Q):GoL env Try.f60 0 [.code ny] [(0,x0),(1,x1)] H Q:=⟨fun g=>bn (by have h:=h g;rw [wM] at h;exact h)⟩
noncomputable def jr:Code:=(Try.f61.body).getD .skip
def rm:Nat→Option (List Nat):=fun i=>none
def ry:Nat→Bool:=fun i=>false
def jt (g:Nat→AV) (x0 x1:AV) (H:Heap) (Q:AV→Heap→Prop):Prop :=
 doW (ao env true (limf env) (limt env 0) H (⟨0,8,Heap.gen H 0 8,0⟩:Ref) (some (.fn (.func 79) [] [])) [x0]) fun v1 H1 =>
 doW (ao env true (limf env) (limt env 0) H1 (⟨0,10,Heap.gen H1 0 10,0⟩:Ref) (some (.fn (.func 79) [] [])) [x1]) fun v2 H2 =>
 br (some v1) (
 br (some v2) (
 Q (.v (.int .i64 0)) H2) (
 Q (.v (.int .i64 (-1))) H2)) (
 br (some v2) (
 Q (.v (.int .i64 1)) H2) (
 doQ (qBin env.P .lss 3 (.tmp 14) (.tmp 15) (some x0) (some x1)) fun v3 =>
 br (some v3) (
 Q (.v (.int .i64 (-1))) H2) (
 doQ (qBin env.P .gtr 3 (.tmp 17) (.tmp 18) (some x0) (some x1)) fun v4 =>
 br (some v4) (
 Q (.v (.int .i64 1)) H2) (
 Q (.v (.int .i64 0)) H2))))
theorem qY:jt=fun g x0 x1 H Q=>wp env Try.f61 none 0 rm ry Q 500 [.code jr] (ofL g [(0,x0),(1,x1)]) H:=by kernel_rfl
theorem q9 (x0 x1:AV) (H:Heap) (Q:AV→Heap→Prop) (h : ∀g,jt g x0 x1 H Q):GoL env Try.f61 0 [.code jr] [(0,x0),(1,x1)] H Q:=⟨fun g=>bn (by have h:=h g;rw [qY] at h;exact h)⟩
noncomputable def kz:Code:=(Try.f79.body).getD .skip
def s9:Nat→Option (List Nat):=fun i=>none
def tf:Nat→Bool:=fun i=>false
def kA (g:Nat→AV) (x0:AV) (H:Heap) (Q:AV→Heap→Prop):Prop :=
 doQ (qBin env.P .neq 3 (.tmp 3) (.tmp 4) (some x0) (some x0)) fun v1 =>
 Q v1 H
theorem sM:kA=fun g x0 H Q=>wp env Try.f79 none 0 s9 tf Q 500 [.code kz] (ofL g [(0,x0)]) H:=by kernel_rfl
theorem sN (x0:AV) (H:Heap) (Q:AV→Heap→Prop) (h : ∀g,kA g x0 H Q):GoL env Try.f79 0 [.code kz] [(0,x0)] H Q:=⟨fun g=>bn (by have h:=h g;rw [sM] at h;exact h)⟩
end Go.Proofs.Ytmjkpdknicjjgaa
