/-
  What is to be shown of each function, computed from its code. No statement of a seat is proved here.
-/
import Derived.Test.YtmjkpdknicjjgaaLgTy
set_option linter.unusedVariables false
set_option maxRecDepth 1000000
namespace Go.Proofs.Ytmjkpdknicjjgaa
open Go.Ab
noncomputable def eT:Code:=(Try.f70.body).getD .skip
noncomputable def dq:List Item:=(bQ 4 400 [.code eT]).getD []
def jJ:Nat→Option (List Nat):=fun i=>cond (Nat.beq i 4) (some [5,1,0]) (none)
def jT:Nat→Bool:=fun i=>false
def eU (g:Nat→AV) (x0 x1:AV) (H:Heap) (Q:AV→Heap→Prop):Prop :=
 doQ (ay env.P false (Heap.get H) (⟨0,7,Heap.gen H 0 7,0⟩:Ref) .len #[40] [x0]) fun v1 =>
 doQ (ay env.P false (Heap.get H) (⟨0,9,Heap.gen H 0 9,0⟩:Ref) .len #[40] [x1]) fun v2 =>
 doQ (qBin env.P .neq 3 (.tmp 7) (.tmp 9) (some v1) (some v2)) fun v3 =>
 br (some v3) (
 Q (.v (.bool false)) H) (
  GoL env Try.f70 0 dq [(5,(.v (.int .i64 0))),(1,x1),(0,x0)] H Q)
theorem oI:eU=fun g x0 x1 H Q=>wp env Try.f70 none 0 jJ jT Q 500 [.code eT] (ofL g [(0,x0),(1,x1)]) H:=by kernel_rfl
theorem oN (x0 x1:AV) (H:Heap) (Q:AV→Heap→Prop) (h : ∀g,eU g x0 x1 H Q):GoL env Try.f70 0 [.code eT] [(0,x0),(1,x1)] H Q:=⟨fun g=>bc (by have h:=h g;rw [oI] at h;exact h)⟩
def dw (g:Nat→AV) (x5 x1 x0:AV) (H:Heap) (Q:AV→Heap→Prop):Prop :=
 doQ (ay env.P false (Heap.get H) (⟨0,13,Heap.gen H 0 13,0⟩:Ref) .len #[40] [x0]) fun v1 =>
 doQ (qBin env.P .lss 3 (.tmp 11) (.tmp 13) (some x5) (some v1)) fun v2 =>
 br (some v2) (
 doQ (au env.P (Heap.get H) 40 (some x0) (some x5)) fun v3 =>
 doQ (ak env.P (Heap.get H) 21 (some v3)) fun v4 =>
 doQ (au env.P (Heap.get H) 40 (some x1) (some x5)) fun v5 =>
 doQ (ak env.P (Heap.get H) 21 (some v5)) fun v6 =>
 doQ (qBin env.P .neq 21 (.tmp 20) (.tmp 24) (some v4) (some v6)) fun v7 =>
 br (some v7) (
 Q (.v (.bool false)) H) (
 doQ (qBin env.P .add 3 (.tmp 15) (.const (.int .i64 1)) (some x5) (some (.v (.int .i64 1)))) fun v8 =>
  GoL env Try.f70 0 dq [(5,v8),(1,x1),(0,x0)] H Q)) (
 Q (.v (.bool true)) H)
theorem nv:dw=fun g x5 x1 x0 H Q=>wp env Try.f70 none 0 jJ jT Q 500 (fu dq) (ofL g [(5,x5),(1,x1),(0,x0)]) H:=by kernel_rfl
theorem iM (x5 x1 x0:AV) (H:Heap) (Q:AV→Heap→Prop) (h : ∀g,dw g x5 x1 x0 H Q):GoL env Try.f70 0 dq [(5,x5),(1,x1),(0,x0)] H Q:=cV fun g=>bc (by have h:=h g;rw [nv] at h;exact h)
noncomputable def jX:Code:=(Try.f71.body).getD .skip
def sG:Nat→Option (List Nat):=fun i=>none
def sQ:Nat→Bool:=fun i=>false
def j5 (g:Nat→AV) (x0:AV) (H:Heap) (Q:AV→Heap→Prop):Prop :=
 doW (nRes H (⟨0,1,Heap.gen H 0 1,0⟩:Ref) (qBox env.P (⟨0,1,Heap.gen H 0 1,0⟩:Ref) 35 (some x0))) fun v1 H1 =>
 doQ (ab env.P 35 (some v1) 0) fun v2 =>
 doQ (ak env.P (Heap.get H1) 33 (some v2)) fun v3 =>
 doW (an env true (limf env) (limt env 0) H1 (⟨0,5,Heap.gen H1 0 5,0⟩:Ref) (some (.fn (.func 85) [] [])) [v3]) fun v4 H2 =>
 doQ (qBin env.P .eql 25 (.tmp 5) (.const (.int .i64 0)) (some v4) (some (.v (.int .i64 0)))) fun v5 =>
 gQ v5 true (ab env.P 35 (some v1) 1) fun v6 =>
 gQ v5 true (ak env.P (Heap.get H2) 5 (some v6)) fun v7 =>
 gQ v5 true (qBin env.P .lss 5 (.tmp 9) (.const (.int .u8 8)) (some v7) (some (a8 8))) fun v8 =>
 doQ (a9 (some v5) (some v8) (some (.v (.bool false)))) fun v9 =>
 doW (an env true (limf env) (limt env 0) H2 (⟨0,12,Heap.gen H2 0 12,0⟩:Ref) (some (.fn (.func 84) [] [])) [v9]) fun v10 H3 =>
 Q v10 H3
theorem r7:j5=fun g x0 H Q=>wp env Try.f71 none 0 sG sQ Q 500 [.code jX] (ofL g [(0,x0)]) H:=by kernel_rfl
theorem sd (x0:AV) (H:Heap) (Q:AV→Heap→Prop) (h : ∀g,j5 g x0 H Q):GoL env Try.f71 0 [.code jX] [(0,x0)] H Q:=⟨fun g=>bc (by have h:=h g;rw [r7] at h;exact h)⟩
noncomputable def lM:Code:=(Try.f86.body).getD .skip
def uM:Nat→Option (List Nat):=fun i=>none
def uS:Nat→Bool:=fun i=>false
def fy (g:Nat→AV) (x0:AV) (H:Heap) (Q:AV→Heap→Prop):Prop :=
 doW (nRes H (⟨0,1,Heap.gen H 0 1,0⟩:Ref) (qBox env.P (⟨0,1,Heap.gen H 0 1,0⟩:Ref) 39 (some x0))) fun v1 H1 =>
 doQ (ab env.P 39 (some v1) 0) fun v2 =>
 doQ (ak env.P (Heap.get H1) 37 (some v2)) fun v3 =>
 doW (an env true (limf env) (limt env 0) H1 (⟨0,5,Heap.gen H1 0 5,0⟩:Ref) (some (.fn (.func 88) [] [])) [v3]) fun v4 H2 =>
 doQ (qBin env.P .eql 25 (.tmp 5) (.const (.int .i64 0)) (some v4) (some (.v (.int .i64 0)))) fun v5 =>
 gQ v5 true (ab env.P 39 (some v1) 1) fun v6 =>
 gQ v5 true (ak env.P (Heap.get H2) 3 (some v6)) fun v7 =>
 gQ v5 true (qBin env.P .geq 3 (.tmp 9) (.const (.int .i64 1)) (some v7) (some (.v (.int .i64 1)))) fun v8 =>
 doQ (a9 (some v5) (some v8) (some (.v (.bool false)))) fun v9 =>
 gQ v9 true (ab env.P 39 (some v1) 1) fun v10 =>
 gQ v9 true (ak env.P (Heap.get H2) 3 (some v10)) fun v11 =>
 gQ v9 true (qBin env.P .leq 3 (.tmp 14) (.const (.int .i64 64)) (some v11) (some (.v (.int .i64 64)))) fun v12 =>
 doQ (a9 (some v9) (some v12) (some (.v (.bool false)))) fun v13 =>
 gQ v13 true (ab env.P 39 (some v1) 0) fun v14 =>
 gQ v13 true (ab env.P 37 (some v14) 1) fun v15 =>
 gQ v13 true (ak env.P (Heap.get H2) 3 (some v15)) fun v16 =>
 gQ v13 true (ab env.P 39 (some v1) 1) fun v17 =>
 gQ v13 true (ak env.P (Heap.get H2) 3 (some v17)) fun v18 =>
 gQ v13 true (qBin env.P .add 3 (.tmp 20) (.tmp 22) (some v16) (some v18)) fun v19 =>
 gQ v13 true (qBin env.P .sub 3 (.tmp 23) (.const (.int .i64 1)) (some v19) (some (.v (.int .i64 1)))) fun v20 =>
 gQ v13 true (qBin env.P .leq 3 (.tmp 24) (.const (.int .i64 1099511627776)) (some v20) (some (.v (.int .i64 1099511627776)))) fun v21 =>
 doQ (a9 (some v13) (some v21) (some (.v (.bool false)))) fun v22 =>
 doW (an env true (limf env) (limt env 0) H2 (⟨0,27,Heap.gen H2 0 27,0⟩:Ref) (some (.fn (.func 84) [] [])) [v22]) fun v23 H3 =>
 Q v23 H3
theorem uy:fy=fun g x0 H Q=>wp env Try.f86 none 0 uM uS Q 500 [.code lM] (ofL g [(0,x0)]) H:=by kernel_rfl
theorem uE (x0:AV) (H:Heap) (Q:AV→Heap→Prop) (h : ∀g,fy g x0 H Q):GoL env Try.f86 0 [.code lM] [(0,x0)] H Q:=⟨fun g=>bc (by have h:=h g;rw [uy] at h;exact h)⟩
noncomputable def dg:Code:=(Try.f92.body).getD .skip
noncomputable def cr:List Item:=(bQ 4 400 [.code dg]).getD []
def gh:Nat→Option (List Nat):=fun i=>cond (Nat.beq i 4) (some [13,1,0,12]) (none)
def gl:Nat→Bool:=fun i=>false
def dh (g:Nat→AV) (x0 x1:AV) (H:Heap) (Q:AV→Heap→Prop):Prop :=
 doQ (ay env.P false (Heap.get H) (⟨0,7,Heap.gen H 0 7,0⟩:Ref) .len #[40] [x0]) fun v1 =>
 doQ (ay env.P false (Heap.get H) (⟨0,9,Heap.gen H 0 9,0⟩:Ref) .len #[40] [x1]) fun v2 =>
 doQ (qBin env.P .neq 3 (.tmp 7) (.tmp 9) (some v1) (some v2)) fun v3 =>
 br (some v3) (
 Q (.v (.bool false)) H) (
 doQ (ay env.P false (Heap.get H) (⟨0,12,Heap.gen H 0 12,0⟩:Ref) .len #[40] [x0]) fun v4 =>
  GoL env Try.f92 0 cr [(13,(.v (.int .i64 0))),(1,x1),(0,x0),(12,v4)] H Q)
theorem kN:dh=fun g x0 x1 H Q=>wp env Try.f92 none 0 gh gl Q 500 [.code dg] (ofL g [(0,x0),(1,x1)]) H:=by kernel_rfl
theorem kQ (x0 x1:AV) (H:Heap) (Q:AV→Heap→Prop) (h : ∀g,dh g x0 x1 H Q):GoL env Try.f92 0 [.code dg] [(0,x0),(1,x1)] H Q:=⟨fun g=>bc (by have h:=h g;rw [kN] at h;exact h)⟩
def cu (g:Nat→AV) (x13 x1 x0 x12:AV) (H:Heap) (Q:AV→Heap→Prop):Prop :=
 doQ (qBin env.P .lss 3 (.tmp 13) (.tmp 12) (some x13) (some x12)) fun v1 =>
 br (some v1) (
 doQ (au env.P (Heap.get H) 40 (some x0) (some x13)) fun v2 =>
 doQ (ak env.P (Heap.get H) 21 (some v2)) fun v3 =>
 doQ (au env.P (Heap.get H) 40 (some x1) (some x13)) fun v4 =>
 doQ (ak env.P (Heap.get H) 21 (some v4)) fun v5 =>
 doQ (qBin env.P .neq 21 (.tmp 19) (.tmp 23) (some v3) (some v5)) fun v6 =>
 br (some v6) (
 Q (.v (.bool false)) H) (
 doQ (qBin env.P .add 3 (.tmp 13) (.const (.int .i64 1)) (some x13) (some (.v (.int .i64 1)))) fun v7 =>
  GoL env Try.f92 0 cr [(13,v7),(1,x1),(0,x0),(12,x12)] H Q)) (
 Q (.v (.bool true)) H)
theorem j8:cu=fun g x13 x1 x0 x12 H Q=>wp env Try.f92 none 0 gh gl Q 500 (fu cr) (ofL g [(13,x13),(1,x1),(0,x0),(12,x12)]) H:=by kernel_rfl
theorem fO (x13 x1 x0 x12:AV) (H:Heap) (Q:AV→Heap→Prop) (h : ∀g,cu g x13 x1 x0 x12 H Q):GoL env Try.f92 0 cr [(13,x13),(1,x1),(0,x0),(12,x12)] H Q:=cV fun g=>bc (by have h:=h g;rw [j8] at h;exact h)
noncomputable def qo:Code:=(Try.f88.body).getD .skip
def BF:Nat→Option (List Nat):=fun i=>none
def Ca:Nat→Bool:=fun i=>false
def qz (g:Nat→AV) (x0:AV) (H:Heap) (Q:AV→Heap→Prop):Prop :=
 doW (nRes H (⟨0,1,Heap.gen H 0 1,0⟩:Ref) (qBox env.P (⟨0,1,Heap.gen H 0 1,0⟩:Ref) 37 (some x0))) fun v1 H1 =>
 doQ (ab env.P 37 (some v1) 0) fun v2 =>
 doQ (ak env.P (Heap.get H1) 35 (some v2)) fun v3 =>
 doW (an env true (limf env) (limt env 0) H1 (⟨0,5,Heap.gen H1 0 5,0⟩:Ref) (some (.fn (.func 71) [] [])) [v3]) fun v4 H2 =>
 doQ (qBin env.P .eql 25 (.tmp 5) (.const (.int .i64 0)) (some v4) (some (.v (.int .i64 0)))) fun v5 =>
 gQ v5 true (ab env.P 37 (some v1) 1) fun v6 =>
 gQ v5 true (ak env.P (Heap.get H2) 3 (some v6)) fun v7 =>
 gQ v5 true (qBin env.P .geq 3 (.tmp 9) (.const (.int .i64 1)) (some v7) (some (.v (.int .i64 1)))) fun v8 =>
 doQ (a9 (some v5) (some v8) (some (.v (.bool false)))) fun v9 =>
 gQ v9 true (ab env.P 37 (some v1) 1) fun v10 =>
 gQ v9 true (ak env.P (Heap.get H2) 3 (some v10)) fun v11 =>
 gQ v9 true (qBin env.P .leq 3 (.tmp 14) (.const (.int .i64 1099511627776)) (some v11) (some (.v (.int .i64 1099511627776)))) fun v12 =>
 doQ (a9 (some v9) (some v12) (some (.v (.bool false)))) fun v13 =>
 doW (an env true (limf env) (limt env 0) H2 (⟨0,17,Heap.gen H2 0 17,0⟩:Ref) (some (.fn (.func 84) [] [])) [v13]) fun v14 H3 =>
 Q v14 H3
theorem AN:qz=fun g x0 H Q=>wp env Try.f88 none 0 BF Ca Q 500 [.code qo] (ofL g [(0,x0)]) H:=by kernel_rfl
theorem AZ (x0:AV) (H:Heap) (Q:AV→Heap→Prop) (h : ∀g,qz g x0 H Q):GoL env Try.f88 0 [.code qo] [(0,x0)] H Q:=⟨fun g=>bc (by have h:=h g;rw [AN] at h;exact h)⟩
noncomputable def nG:Code:=(Try.f89.body).getD .skip
def xA:Nat→Option (List Nat):=fun i=>none
def xM:Nat→Bool:=fun i=>false
def kH (g:Nat→AV) (x0:AV) (H:Heap) (Q:AV→Heap→Prop):Prop :=
 doQ (ay env.P false (Heap.get H) (⟨0,6,Heap.gen H 0 6,0⟩:Ref) .len #[40] [x0]) fun v1 =>
 doQ (qBin env.P .gtr 3 (.tmp 6) (.const (.int .i64 64)) (some v1) (some (.v (.int .i64 64)))) fun v2 =>
 br (some v2) (
 Q (.v (.int .i64 4)) H) (
 doW (an env true (limf env) (limt env 0) H (⟨0,11,Heap.gen H 0 11,0⟩:Ref) (some (.fn (.func 109) [] [])) [x0,(.fn (.func 107) [] [])]) fun v3 H1 =>
 br (some v3) (
 Q (.v (.int .i64 8)) H1) (
 Q (.v (.int .i64 0)) H1))
theorem wW:kH=fun g x0 H Q=>wp env Try.f89 none 0 xA xM Q 500 [.code nG] (ofL g [(0,x0)]) H:=by kernel_rfl
theorem xj (x0:AV) (H:Heap) (Q:AV→Heap→Prop) (h : ∀g,kH g x0 H Q):GoL env Try.f89 0 [.code nG] [(0,x0)] H Q:=⟨fun g=>bc (by have h:=h g;rw [wW] at h;exact h)⟩
noncomputable def nK:Code:=(Try.f85.body).getD .skip
def xE:Nat→Option (List Nat):=fun i=>none
def xQ:Nat→Bool:=fun i=>false
def nT (g:Nat→AV) (x0:AV) (H:Heap) (Q:AV→Heap→Prop):Prop :=
 doW (nRes H (⟨0,1,Heap.gen H 0 1,0⟩:Ref) (qBox env.P (⟨0,1,Heap.gen H 0 1,0⟩:Ref) 33 (some x0))) fun v1 H1 =>
 doQ (ab env.P 33 (some v1) 0) fun v2 =>
 doQ (ak env.P (Heap.get H1) 5 (some v2)) fun v3 =>
 doQ (qBin env.P .gtr 5 (.tmp 4) (.const (.int .u8 15)) (some v3) (some (a8 15))) fun v4 =>
 br (some v4) (
 Q (.v (.int .i64 8)) H1) (
 Q (.v (.int .i64 0)) H1)
theorem w8:nT=fun g x0 H Q=>wp env Try.f85 none 0 xE xQ Q 500 [.code nK] (ofL g [(0,x0)]) H:=by kernel_rfl
theorem xp (x0:AV) (H:Heap) (Q:AV→Heap→Prop) (h : ∀g,nT g x0 H Q):GoL env Try.f85 0 [.code nK] [(0,x0)] H Q:=⟨fun g=>bc (by have h:=h g;rw [w8] at h;exact h)⟩
noncomputable def qn:Code:=(Try.f84.body).getD .skip
def BD:Nat→Option (List Nat):=fun i=>none
def B0:Nat→Bool:=fun i=>false
def qy (g:Nat→AV) (x0:AV) (H:Heap) (Q:AV→Heap→Prop):Prop :=
 br (some x0) (
 Q (.v (.int .i64 0)) H) (
 Q (.v (.int .i64 8)) H)
theorem AL:qy=fun g x0 H Q=>wp env Try.f84 none 0 BD B0 Q 500 [.code qn] (ofL g [(0,x0)]) H:=by kernel_rfl
theorem AY (x0:AV) (H:Heap) (Q:AV→Heap→Prop) (h : ∀g,qy g x0 H Q):GoL env Try.f84 0 [.code qn] [(0,x0)] H Q:=⟨fun g=>bc (by have h:=h g;rw [AL] at h;exact h)⟩
noncomputable def lJ:Code:=(Try.f107.body).getD .skip
def uJ:Nat→Option (List Nat):=fun i=>none
def uP:Nat→Bool:=fun i=>false
def je (g:Nat→AV) (x0:AV) (H:Heap) (Q:AV→Heap→Prop):Prop :=
 doQ (qBin env.P .neq 21 (.tmp 3) (.const (.int .i32 (-1))) (some x0) (some (.v (.int .i32 (-1))))) fun v1 =>
 gQ v1 true (qVal (some x0)) fun v2 =>
 gW v1 true H (an env true (limf env) (limt env 0) H (⟨0,7,Heap.gen H 0 7,0⟩:Ref) (some (.fn (.func 108) [] [])) [v2]) fun v3 H1 =>
 gQ v1 true (qUn env.P .not (some v3)) fun v4 =>
 doQ (a9 (some v1) (some v4) (some (.v (.bool false)))) fun v5 =>
 Q v5 H1
theorem uo:je=fun g x0 H Q=>wp env Try.f107 none 0 uJ uP Q 500 [.code lJ] (ofL g [(0,x0)]) H:=by kernel_rfl
theorem uB (x0:AV) (H:Heap) (Q:AV→Heap→Prop) (h : ∀g,je g x0 H Q):GoL env Try.f107 0 [.code lJ] [(0,x0)] H Q:=⟨fun g=>bc (by have h:=h g;rw [uo] at h;exact h)⟩
noncomputable def fJ:Code:=(Try.f108.body).getD .skip
def nz:Nat→Option (List Nat):=fun i=>none
def nD:Nat→Bool:=fun i=>false
def fK (g:Nat→AV) (x0:AV) (H:Heap) (Q:AV→Heap→Prop):Prop :=
 doQ (qBin env.P .leq 21 (.const (.int .i32 0)) (.tmp 4) (some (.v (.int .i32 0))) (some x0)) fun v1 =>
 gQ v1 true (qVal (some x0)) fun v2 =>
 gQ v1 true (qBin env.P .lss 21 (.tmp 7) (.const (.int .i32 55296)) (some v2) (some (.v (.int .i32 55296)))) fun v3 =>
 doQ (a9 (some v1) (some v3) (some (.v (.bool false)))) fun v4 =>
 br (some v4) (
 Q (.v (.bool true)) H) (
 doQ (qBin env.P .lss 21 (.const (.int .i32 57343)) (.tmp 11) (some (.v (.int .i32 57343))) (some x0)) fun v5 =>
 gQ v5 true (qVal (some x0)) fun v6 =>
 gQ v5 true (qBin env.P .leq 21 (.tmp 14) (.const (.int .i32 1114111)) (some v6) (some (.v (.int .i32 1114111)))) fun v7 =>
 doQ (a9 (some v5) (some v7) (some (.v (.bool false)))) fun v8 =>
 br (some v8) (
 Q (.v (.bool true)) H) (
 Q (.v (.bool false)) H))
theorem nr:fK=fun g x0 H Q=>wp env Try.f108 none 0 nz nD Q 500 [.code fJ] (ofL g [(0,x0)]) H:=by kernel_rfl
theorem nw (x0:AV) (H:Heap) (Q:AV→Heap→Prop) (h : ∀g,fK g x0 H Q):GoL env Try.f108 0 [.code fJ] [(0,x0)] H Q:=⟨fun g=>bc (by have h:=h g;rw [nr] at h;exact h)⟩
noncomputable def du:Code:=(Try.f109.body).getD .skip
def iN:Nat→Option (List Nat):=fun i=>none
def iU:Nat→Bool:=fun i=>false
def dv (g:Nat→AV) (x0 x1:AV) (H:Heap) (Q:AV→Heap→Prop):Prop :=
 doW (an env true (limf env) (limt env 0) H (⟨0,7,Heap.gen H 0 7,0⟩:Ref) (some (.fn (.func 112) [] [])) [x0,x1]) fun v1 H1 =>
 doQ (qBin env.P .geq 3 (.tmp 7) (.const (.int .i64 0)) (some v1) (some (.v (.int .i64 0)))) fun v2 =>
 Q v2 H1
theorem iK:dv=fun g x0 x1 H Q=>wp env Try.f109 none 0 iN iU Q 500 [.code du] (ofL g [(0,x0),(1,x1)]) H:=by kernel_rfl
theorem iL (x0 x1:AV) (H:Heap) (Q:AV→Heap→Prop) (h : ∀g,dv g x0 x1 H Q):GoL env Try.f109 0 [.code du] [(0,x0),(1,x1)] H Q:=⟨fun g=>bc (by have h:=h g;rw [iK] at h;exact h)⟩
noncomputable def cO:Code:=(Try.f112.body).getD .skip
noncomputable def bN:List Item:=(bQ 2 400 [.code cO]).getD []
def fB:Nat→Option (List Nat):=fun i=>cond (Nat.beq i 2) (some [8,0,1,7]) (none)
def fG:Nat→Bool:=fun i=>false
def dN (g:Nat→AV) (x0 x1:AV) (H:Heap) (Q:AV→Heap→Prop):Prop :=
 doQ (ay env.P false (Heap.get H) (⟨0,7,Heap.gen H 0 7,0⟩:Ref) .len #[40] [x0]) fun v1 =>
  GoL env Try.f112 0 bN [(8,(.v (.int .i64 0))),(0,x0),(1,x1),(7,v1)] H Q
theorem jA:dN=fun g x0 x1 H Q=>wp env Try.f112 none 0 fB fG Q 500 [.code cO] (ofL g [(0,x0),(1,x1)]) H:=by kernel_rfl
theorem jD (x0 x1:AV) (H:Heap) (Q:AV→Heap→Prop) (h : ∀g,dN g x0 x1 H Q):GoL env Try.f112 0 [.code cO] [(0,x0),(1,x1)] H Q:=⟨fun g=>bc (by have h:=h g;rw [jA] at h;exact h)⟩
def bO (g:Nat→AV) (x8 x0 x1 x7:AV) (H:Heap) (Q:AV→Heap→Prop):Prop :=
 doQ (qBin env.P .lss 3 (.tmp 8) (.tmp 7) (some x8) (some x7)) fun v1 =>
 br (some v1) (
 doQ (au env.P (Heap.get H) 40 (some x0) (some x8)) fun v2 =>
 doQ (ak env.P (Heap.get H) 21 (some v2)) fun v3 =>
 doW (an env true (limf env) (limt env 0) H (⟨0,16,Heap.gen H 0 16,0⟩:Ref) (some x1) [v3]) fun v4 H1 =>
 br (some v4) (
 Q x8 H1) (
 doQ (qBin env.P .add 3 (.tmp 8) (.const (.int .i64 1)) (some x8) (some (.v (.int .i64 1)))) fun v5 =>
  GoL env Try.f112 0 bN [(8,v5),(0,x0),(1,x1),(7,x7)] H1 Q)) (
 Q (.v (.int .i64 (-1))) H)
theorem ji:bO=fun g x8 x0 x1 x7 H Q=>wp env Try.f112 none 0 fB fG Q 500 (fu bN) (ofL g [(8,x8),(0,x0),(1,x1),(7,x7)]) H:=by kernel_rfl
theorem eZ (x8 x0 x1 x7:AV) (H:Heap) (Q:AV→Heap→Prop) (h : ∀g,bO g x8 x0 x1 x7 H Q):GoL env Try.f112 0 bN [(8,x8),(0,x0),(1,x1),(7,x7)] H Q:=cV fun g=>bc (by have h:=h g;rw [ji] at h;exact h)
noncomputable def jW:Code:=(Try.f72.body).getD .skip
noncomputable def jP:List Item:=(bQ 2 400 [.code jW]).getD []
def sF:Nat→Option (List Nat):=fun i=>cond (Nat.beq i 2) (some [5,0,4]) (none)
def sP:Nat→Bool:=fun i=>false
def mf (g:Nat→AV) (x0 x1:AV) (H:Heap) (Q:AV→Heap→Prop):Prop :=
 doQ (qBin env.P .sub 3 (.tmp 6) (.const (.int .i64 1)) (some x1) (some (.v (.int .i64 1)))) fun v1 =>
  GoL env Try.f72 0 jP [(5,v1),(0,x0),(4,(.v (.slice none 0 0)))] H Q
theorem yZ:mf=fun g x0 x1 H Q=>wp env Try.f72 none 0 sF sP Q 500 [.code jW] (ofL g [(0,x0),(1,x1)]) H:=by kernel_rfl
theorem sc (x0 x1:AV) (H:Heap) (Q:AV→Heap→Prop) (h : ∀g,mf g x0 x1 H Q):GoL env Try.f72 0 [.code jW] [(0,x0),(1,x1)] H Q:=⟨fun g=>bc (by have h:=h g;rw [yZ] at h;exact h)⟩
def bP (g:Nat→AV) (x5 x0 x4:AV) (H:Heap) (Q:AV→Heap→Prop):Prop :=
 doQ (qBin env.P .geq 3 (.tmp 8) (.const (.int .i64 0)) (some x5) (some (.v (.int .i64 0)))) fun v1 =>
 br (some v1) (
 doQ (qBin env.P .mul 3 (.const (.int .i64 8)) (.tmp 14) (some (.v (.int .i64 8))) (some x5)) fun v2 =>
 doQ (qBin env.P .shr 3 (.tmp 13) (.tmp 15) (some x0) (some v2)) fun v3 =>
 doQ (aJ env.P (Heap.get H) (⟨0,17,Heap.gen H 0 17,0⟩:Ref) 3 5 (some v3)) fun v4 =>
 doW (fU env.P false true H (⟨0,18,Heap.gen H 0 18,0⟩:Ref) 68 1 (some [(0,v4)])) fun v5 H1 =>
 doW (bM env.P true H1 (⟨0,19,Heap.gen H1 0 19,0⟩:Ref) (some 68) (some 68) x4 v5) fun v6 H2 =>
 doQ (qBin env.P .sub 3 (.tmp 10) (.const (.int .i64 1)) (some x5) (some (.v (.int .i64 1)))) fun v7 =>
  GoL env Try.f72 0 jP [(5,v7),(0,x0),(4,v6)] H2 Q) (
 Q x4 H)
theorem vt:bP=fun g x5 x0 x4 H Q=>wp env Try.f72 none 0 sF sP Q 500 (fu jP) (ofL g [(5,x5),(0,x0),(4,x4)]) H:=by kernel_rfl
theorem cx (x5 x0 x4:AV) (H:Heap) (Q:AV→Heap→Prop) (h : ∀g,bP g x5 x0 x4 H Q):GoL env Try.f72 0 jP [(5,x5),(0,x0),(4,x4)] H Q:=cV fun g=>bc (by have h:=h g;rw [vt] at h;exact h)
noncomputable def pj:Code:=(Try.f110.body).getD .skip
noncomputable def jO:List Item:=(bQ 2 400 [.code pj]).getD []
def wh:Nat→Option (List Nat):=fun i=>cond (Nat.beq i 2) (some [7,2,5,6]) (none)
def wG:Nat→Bool:=fun i=>false
def rU (g:Nat→AV) (x0:AV) (H:Heap) (Q:AV→Heap→Prop):Prop :=
 doQ (ay env.P false (Heap.get H) (⟨0,6,Heap.gen H 0 6,0⟩:Ref) .len #[68] [x0]) fun v1 =>
  GoL env Try.f110 0 jO [(7,(.v (.int .i64 0))),(2,(.v (.int .i64 0))),(5,x0),(6,v1)] H Q
theorem CC:rU=fun g x0 H Q=>wp env Try.f110 none 0 wh wG Q 500 [.code pj] (ofL g [(0,x0)]) H:=by kernel_rfl
theorem CK (x0:AV) (H:Heap) (Q:AV→Heap→Prop) (h : ∀g,rU g x0 H Q):GoL env Try.f110 0 [.code pj] [(0,x0)] H Q:=⟨fun g=>bc (by have h:=h g;rw [CC] at h;exact h)⟩
def me (g:Nat→AV) (x7 x2 x5 x6:AV) (H:Heap) (Q:AV→Heap→Prop):Prop :=
 doQ (qBin env.P .lss 3 (.tmp 7) (.tmp 6) (some x7) (some x6)) fun v1 =>
 br (some v1) (
 doQ (au env.P (Heap.get H) 68 (some x5) (some x7)) fun v2 =>
 doQ (ak env.P (Heap.get H) 5 (some v2)) fun v3 =>
 doQ (qBin env.P .shl 3 (.tmp 11) (.const (.int .u64 8)) (some x2) (some (.v (.int .u64 8)))) fun v4 =>
 doQ (aJ env.P (Heap.get H) (⟨0,14,Heap.gen H 0 14,0⟩:Ref) 5 3 (some v3)) fun v5 =>
 doQ (qBin env.P .or 3 (.tmp 12) (.tmp 14) (some v4) (some v5)) fun v6 =>
 doQ (qBin env.P .add 3 (.tmp 7) (.const (.int .i64 1)) (some x7) (some (.v (.int .i64 1)))) fun v7 =>
  GoL env Try.f110 0 jO [(7,v7),(2,v6),(5,x5),(6,x6)] H Q) (
 Q x2 H)
theorem yY:me=fun g x7 x2 x5 x6 H Q=>wp env Try.f110 none 0 wh wG Q 500 (fu jO) (ofL g [(7,x7),(2,x2),(5,x5),(6,x6)]) H:=by kernel_rfl
theorem sb (x7 x2 x5 x6:AV) (H:Heap) (Q:AV→Heap→Prop) (h : ∀g,me g x7 x2 x5 x6 H Q):GoL env Try.f110 0 jO [(7,x7),(2,x2),(5,x5),(6,x6)] H Q:=cV fun g=>bc (by have h:=h g;rw [yY] at h;exact h)
noncomputable def nj:Code:=(Try.f94.body).getD .skip
def BE:Nat→Option (List Nat):=fun i=>none
def B9:Nat→Bool:=fun i=>false
def nn (g:Nat→AV) (x0:AV) (H:Heap) (Q:AV→Heap→Prop):Prop :=
 doW (nRes H (⟨0,2,Heap.gen H 0 2,0⟩:Ref) (bS env.P (⟨0,2,Heap.gen H 0 2,0⟩:Ref) 162)) fun v1 H1 =>
 doQ (au env.P (Heap.get H1) 68 (some x0) (some (.v (.int .i64 0)))) fun v2 =>
 doQ (ak env.P (Heap.get H1) 5 (some v2)) fun v3 =>
 doQ (bJ env.P (Heap.get H1) 68 (some x0) (oi (.v (.int .i64 1))) (oi (.v (.int .i64 5))) (some none)) fun v4 =>
 doW (an env false (limf env) (limt env 0) H1 (⟨0,9,Heap.gen H1 0 9,0⟩:Ref) (some (.fn (.func 110) [] [])) [v4]) fun v5 H2 =>
 doQ (aJ env.P (Heap.get H2) (⟨0,10,Heap.gen H2 0 10,0⟩:Ref) 3 31 (some v5)) fun v6 =>
 doQ (bu env.P 33 (some [(0,v3),(1,v6)])) fun v7 =>
 doQ (au env.P (Heap.get H2) 68 (some x0) (some (.v (.int .i64 5)))) fun v8 =>
 doQ (ak env.P (Heap.get H2) 5 (some v8)) fun v9 =>
 doQ (bu env.P 35 (some [(0,v7),(1,v9)])) fun v10 =>
 doQ (bu env.P 162 (some [(0,v10)])) fun v11 =>
 doW (nRes H2 (⟨0,3,Heap.gen H2 0 3,0⟩:Ref) (bS env.P (⟨0,3,Heap.gen H2 0 3,0⟩:Ref) 162)) fun v12 H3 =>
 doW (aw env.P H3 162 (some v12) (some v11)) fun v13 H4 =>
 doQ (ab env.P 162 (some v12) 0) fun v14 =>
 doQ (ak env.P (Heap.get H4) 35 (some v14)) fun v15 =>
 doW (an env true (limf env) (limt env 0) H4 (⟨0,19,Heap.gen H4 0 19,0⟩:Ref) (some (.fn (.func 71) [] [])) [v15]) fun v16 H5 =>
 doQ (ab env.P 162 (some v12) 1) fun v17 =>
 doW (aw env.P H5 25 (some v17) (some v16)) fun v18 H6 =>
 doQ (ak env.P (Heap.get H6) 162 (some v12)) fun v19 =>
 doW (aw env.P H6 162 (some v1) (some v19)) fun v20 H7 =>
 doQ (aE env.P H7 v1 162) fun v21 =>
 Q v21 H7
theorem AM:nn=fun g x0 H Q=>wp env Try.f94 none 0 BE B9 Q 500 [.code nj] (ofL g [(0,x0)]) H:=by kernel_rfl
theorem tI (x0:AV) (H:Heap) (Q:AV→Heap→Prop) (h : ∀g,nn g x0 H Q):GoL env Try.f94 0 [.code nj] [(0,x0)] H Q:=⟨fun g=>bc (by have h:=h g;rw [AM] at h;exact h)⟩
noncomputable def lL:Code:=(Try.f81.body).getD .skip
def uL:Nat→Option (List Nat):=fun i=>none
def uR:Nat→Bool:=fun i=>false
def lN (g:Nat→AV) (x0:AV) (H:Heap) (Q:AV→Heap→Prop):Prop :=
 doW (nRes H (⟨0,2,Heap.gen H 0 2,0⟩:Ref) (bS env.P (⟨0,2,Heap.gen H 0 2,0⟩:Ref) 35)) fun v1 H1 =>
 doQ (ay env.P false (Heap.get H1) (⟨0,6,Heap.gen H1 0 6,0⟩:Ref) .len #[68] [x0]) fun v2 =>
 doQ (qBin env.P .neq 3 (.tmp 6) (.const (.int .i64 6)) (some v2) (some (.v (.int .i64 6)))) fun v3 =>
 br (some v3) (
 doQ (bu env.P 35 (some [])) fun v4 =>
 doW (aw env.P H1 35 (some v1) (some v4)) fun v5 H2 =>
 doQ (aE env.P H2 v1 35) fun v6 =>
 Q (.tup [v6,(.v (.int .i64 8))]) H2) (
 doW (an env true (limf env) (limt env 0) H1 (⟨0,10,Heap.gen H1 0 10,0⟩:Ref) (some (.fn (.func 94) [] [])) [x0]) fun v4 H2 =>
 doW (nRes H2 (⟨0,4,Heap.gen H2 0 4,0⟩:Ref) (bS env.P (⟨0,4,Heap.gen H2 0 4,0⟩:Ref) 162)) fun v5 H3 =>
 doW (aw env.P H3 162 (some v5) (some v4)) fun v6 H4 =>
 doQ (ab env.P 162 (some v5) 1) fun v7 =>
 doQ (ak env.P (Heap.get H4) 25 (some v7)) fun v8 =>
 doQ (qBin env.P .neq 25 (.tmp 12) (.const (.int .i64 0)) (some v8) (some (.v (.int .i64 0)))) fun v9 =>
 br (some v9) (
 doQ (bu env.P 35 (some [])) fun v10 =>
 doQ (ab env.P 162 (some v5) 1) fun v11 =>
 doQ (ak env.P (Heap.get H4) 25 (some v11)) fun v12 =>
 doW (aw env.P H4 35 (some v1) (some v10)) fun v13 H5 =>
  oD [(v11,v1)] [v1] [] H5 ∧
 (doQ (aE env.P H5 v1 35) fun v14 =>
 Q (.tup [v14,v12]) H5)) (
 doQ (ab env.P 162 (some v5) 0) fun v10 =>
 doQ (ak env.P (Heap.get H4) 35 (some v10)) fun v11 =>
 doW (aw env.P H4 35 (some v1) (some v11)) fun v12 H5 =>
 doQ (aE env.P H5 v1 35) fun v13 =>
 Q (.tup [v13,(.v (.int .i64 0))]) H5))
theorem uw:lN=fun g x0 H Q=>wp env Try.f81 none 0 uL uR Q 500 [.code lL] (ofL g [(0,x0)]) H:=by kernel_rfl
theorem uD (x0:AV) (H:Heap) (Q:AV→Heap→Prop) (h : ∀g,lN g x0 H Q):GoL env Try.f81 0 [.code lL] [(0,x0)] H Q:=⟨fun g=>bc (by have h:=h g;rw [uw] at h;exact h)⟩
noncomputable def tB:Code:=(Try.f111.body).getD .skip
def FC:Nat→Option (List Nat):=fun i=>none
def FY:Nat→Bool:=fun i=>false
def tG (g:Nat→AV) (x0:AV) (H:Heap) (Q:AV→Heap→Prop):Prop :=
 doW (nRes H (⟨0,2,Heap.gen H 0 2,0⟩:Ref) (bS env.P (⟨0,2,Heap.gen H 0 2,0⟩:Ref) 37)) fun v1 H1 =>
 doQ (ay env.P false (Heap.get H1) (⟨0,7,Heap.gen H1 0 7,0⟩:Ref) .len #[68] [x0]) fun v2 =>
 doQ (qBin env.P .neq 3 (.tmp 7) (.const (.int .i64 13)) (some v2) (some (.v (.int .i64 13)))) fun v3 =>
 br (some v3) (
 doQ (bu env.P 37 (some [])) fun v4 =>
 doW (aw env.P H1 37 (some v1) (some v4)) fun v5 H2 =>
 doQ (aE env.P H2 v1 37) fun v6 =>
 Q (.tup [v6,(.v (.int .i64 8))]) H2) (
 doW (an env false (limf env) (limt env 0) H1 (⟨0,11,Heap.gen H1 0 11,0⟩:Ref) (some (.fn (.func 94) [] [])) [x0]) fun v4 H2 =>
 doQ (ra env.P 162 (some v4) 0) fun v5 =>
 doQ (bJ env.P (Heap.get H2) 68 (some x0) (oi (.v (.int .i64 6))) (some none) (some none)) fun v6 =>
 doW (an env false (limf env) (limt env 0) H2 (⟨0,15,Heap.gen H2 0 15,0⟩:Ref) (some (.fn (.func 110) [] [])) [v6]) fun v7 H3 =>
 doQ (bu env.P 37 (some [(0,v5),(1,v7)])) fun v8 =>
 doW (nRes H3 (⟨0,4,Heap.gen H3 0 4,0⟩:Ref) (bS env.P (⟨0,4,Heap.gen H3 0 4,0⟩:Ref) 37)) fun v9 H4 =>
 doW (aw env.P H4 37 (some v9) (some v8)) fun v10 H5 =>
 doQ (ak env.P (Heap.get H5) 37 (some v9)) fun v11 =>
 doW (an env true (limf env) (limt env 0) H5 (⟨0,18,Heap.gen H5 0 18,0⟩:Ref) (some (.fn (.func 88) [] [])) [v11]) fun v12 H6 =>
 doQ (qBin env.P .neq 25 (.tmp 19) (.const (.int .i64 0)) (some v12) (some (.v (.int .i64 0)))) fun v13 =>
 br (some v13) (
 doQ (bu env.P 37 (some [])) fun v14 =>
 doW (aw env.P H6 37 (some v1) (some v14)) fun v15 H7 =>
 doQ (aE env.P H7 v1 37) fun v16 =>
 Q (.tup [v16,v12]) H7) (
 doQ (ak env.P (Heap.get H6) 37 (some v9)) fun v14 =>
 doW (aw env.P H6 37 (some v1) (some v14)) fun v15 H7 =>
 doQ (aE env.P H7 v1 37) fun v16 =>
 Q (.tup [v16,(.v (.int .i64 0))]) H7))
theorem E2:tG=fun g x0 H Q=>wp env Try.f111 none 0 FC FY Q 500 [.code tB] (ofL g [(0,x0)]) H:=by kernel_rfl
theorem E5 (x0:AV) (H:Heap) (Q:AV→Heap→Prop) (h : ∀g,tG g x0 H Q):GoL env Try.f111 0 [.code tB] [(0,x0)] H Q:=⟨fun g=>bc (by have h:=h g;rw [E2] at h;exact h)⟩
noncomputable def lK:Code:=(Try.f53.body).getD .skip
def uK:Nat→Option (List Nat):=fun i=>none
def uQ:Nat→Bool:=fun i=>false
def jh (g:Nat→AV) (x0:AV) (H:Heap) (Q:AV→Heap→Prop):Prop :=
 doW (nRes H (⟨0,1,Heap.gen H 0 1,0⟩:Ref) (qBox env.P (⟨0,1,Heap.gen H 0 1,0⟩:Ref) 35 (some x0))) fun v1 H1 =>
 doQ (ak env.P (Heap.get H1) 35 (some v1)) fun v2 =>
 doW (an env true (limf env) (limt env 0) H1 (⟨0,6,Heap.gen H1 0 6,0⟩:Ref) (some (.fn (.func 71) [] [])) [v2]) fun v3 H2 =>
 doQ (qBin env.P .neq 25 (.tmp 7) (.const (.int .i64 0)) (some v3) (some (.v (.int .i64 0)))) fun v4 =>
 br (some v4) (
 Q (.tup [(.v (.slice none 0 0)),v3]) H2) (
 doQ (ab env.P 35 (some v1) 0) fun v5 =>
 doQ (ab env.P 33 (some v5) 0) fun v6 =>
 doQ (ak env.P (Heap.get H2) 5 (some v6)) fun v7 =>
 doW (fU env.P true false H2 (⟨0,13,Heap.gen H2 0 13,0⟩:Ref) 68 1 (some [(0,v7)])) fun v8 H3 =>
 doQ (ab env.P 35 (some v1) 0) fun v9 =>
 doQ (ab env.P 33 (some v9) 1) fun v10 =>
 doQ (ak env.P (Heap.get H3) 31 (some v10)) fun v11 =>
 doQ (aJ env.P (Heap.get H3) (⟨0,17,Heap.gen H3 0 17,0⟩:Ref) 31 3 (some v11)) fun v12 =>
 doW (an env false (limf env) (limt env 0) H3 (⟨0,18,Heap.gen H3 0 18,0⟩:Ref) (some (.fn (.func 72) [] [])) [v12,(.v (.int .i64 4))]) fun v13 H4 =>
 doW (bM env.P false H4 (⟨0,19,Heap.gen H4 0 19,0⟩:Ref) (some 68) (some 68) v8 v13) fun v14 H5 =>
 doQ (ab env.P 35 (some v1) 1) fun v15 =>
 doQ (ak env.P (Heap.get H5) 5 (some v15)) fun v16 =>
 doW (fU env.P true false H5 (⟨0,22,Heap.gen H5 0 22,0⟩:Ref) 68 1 (some [(0,v16)])) fun v17 H6 =>
 doW (bM env.P true H6 (⟨0,23,Heap.gen H6 0 23,0⟩:Ref) (some 68) (some 68) v14 v17) fun v18 H7 =>
 Q (.tup [v18,(.v (.int .i64 0))]) H7)
theorem uv:jh=fun g x0 H Q=>wp env Try.f53 none 0 uK uQ Q 500 [.code lK] (ofL g [(0,x0)]) H:=by kernel_rfl
theorem uC (x0:AV) (H:Heap) (Q:AV→Heap→Prop) (h : ∀g,jh g x0 H Q):GoL env Try.f53 0 [.code lK] [(0,x0)] H Q:=⟨fun g=>bc (by have h:=h g;rw [uv] at h;exact h)⟩
noncomputable def tA:Code:=(Try.f74.body).getD .skip
def FB:Nat→Option (List Nat):=fun i=>none
def FX:Nat→Bool:=fun i=>false
def qR (g:Nat→AV) (x0:AV) (H:Heap) (Q:AV→Heap→Prop):Prop :=
 doW (nRes H (⟨0,1,Heap.gen H 0 1,0⟩:Ref) (qBox env.P (⟨0,1,Heap.gen H 0 1,0⟩:Ref) 37 (some x0))) fun v1 H1 =>
 doQ (ak env.P (Heap.get H1) 37 (some v1)) fun v2 =>
 doW (an env true (limf env) (limt env 0) H1 (⟨0,8,Heap.gen H1 0 8,0⟩:Ref) (some (.fn (.func 88) [] [])) [v2]) fun v3 H2 =>
 doQ (qBin env.P .neq 25 (.tmp 9) (.const (.int .i64 0)) (some v3) (some (.v (.int .i64 0)))) fun v4 =>
 br (some v4) (
 Q (.tup [(.v (.slice none 0 0)),v3]) H2) (
 doQ (ab env.P 37 (some v1) 0) fun v5 =>
 doQ (ak env.P (Heap.get H2) 35 (some v5)) fun v6 =>
 doW (an env true (limf env) (limt env 0) H2 (⟨0,15,Heap.gen H2 0 15,0⟩:Ref) (some (.fn (.func 53) [] [])) [v6]) fun v7 H3 =>
 doQ (ao (some v7) 0) fun v8 =>
 doQ (ao (some v7) 1) fun v9 =>
 doQ (ab env.P 37 (some v1) 1) fun v10 =>
 doQ (ak env.P (Heap.get H3) 3 (some v10)) fun v11 =>
 doW (an env true (limf env) (limt env 0) H3 (⟨0,21,Heap.gen H3 0 21,0⟩:Ref) (some (.fn (.func 72) [] [])) [v11,(.v (.int .i64 7))]) fun v12 H4 =>
 doW (bM env.P true H4 (⟨0,22,Heap.gen H4 0 22,0⟩:Ref) (some 68) (some 68) v8 v12) fun v13 H5 =>
 Q (.tup [v13,v9]) H5)
theorem E1:qR=fun g x0 H Q=>wp env Try.f74 none 0 FB FX Q 500 [.code tA] (ofL g [(0,x0)]) H:=by kernel_rfl
theorem E4 (x0:AV) (H:Heap) (Q:AV→Heap→Prop) (h : ∀g,qR g x0 H Q):GoL env Try.f74 0 [.code tA] [(0,x0)] H Q:=⟨fun g=>bc (by have h:=h g;rw [E1] at h;exact h)⟩
noncomputable def pn:Code:=(Try.f9.body).getD .skip
def Ac:Nat→Option (List Nat):=fun i=>none
def At:Nat→Bool:=fun i=>false
def iB (g:Nat→AV) (x0 x1:AV) (H:Heap) (Q:AV→Heap→Prop):Prop :=
 doW (nRes H (⟨0,2,Heap.gen H 0 2,0⟩:Ref) (qBox env.P (⟨0,2,Heap.gen H 0 2,0⟩:Ref) 24 (some x0))) fun v1 H1 =>
 doW (nRes H1 (⟨0,4,Heap.gen H1 0 4,0⟩:Ref) (bS env.P (⟨0,4,Heap.gen H1 0 4,0⟩:Ref) 24)) fun v2 H2 =>
 doQ (ak env.P (Heap.get H2) 24 (some v1)) fun v3 =>
 doW (an env true (limf env) (limt env 0) H2 (⟨0,8,Heap.gen H2 0 8,0⟩:Ref) (some (.fn (.func 29) [] [])) [v3]) fun v4 H3 =>
 doQ (qBin env.P .neq 25 (.tmp 9) (.const (.int .i64 0)) (some v4) (some (.v (.int .i64 0)))) fun v5 =>
 br (some v5) (
 doQ (bu env.P 24 (some [])) fun v6 =>
 doW (aw env.P H3 24 (some v2) (some v6)) fun v7 H4 =>
 doQ (aE env.P H4 v2 24) fun v8 =>
 Q (.tup [v8,v4]) H4) (
 doQ (qBin env.P .lss 3 (.tmp 14) (.const (.int .i64 (-1))) (some x1) (some (.v (.int .i64 (-1))))) fun v6 =>
 gQ v6 false (qVal (some x1)) fun v7 =>
 gQ v6 false (qBin env.P .geq 3 (.tmp 17) (.const (.int .i64 2147483648)) (some v7) (some (.v (.int .i64 2147483648)))) fun v8 =>
 doQ (a9 (some v6) (some (.v (.bool true))) (some v8)) fun v9 =>
 br (some v9) (
 doQ (bu env.P 24 (some [])) fun v10 =>
 doW (aw env.P H3 24 (some v2) (some v10)) fun v11 H4 =>
 doQ (aE env.P H4 v2 24) fun v12 =>
 Q (.tup [v12,(.v (.int .i64 2))]) H4) (
 doQ (ab env.P 24 (some v1) 1) fun v10 =>
 doQ (ak env.P (Heap.get H3) 3 (some v10)) fun v11 =>
 doQ (qBin env.P .add 3 (.tmp 23) (.const (.int .i64 1)) (some v11) (some (.v (.int .i64 1)))) fun v12 =>
 doQ (qBin env.P .geq 3 (.tmp 24) (.const (.int .i64 2147483648)) (some v12) (some (.v (.int .i64 2147483648)))) fun v13 =>
 br (some v13) (
 doQ (bu env.P 24 (some [])) fun v14 =>
 doW (aw env.P H3 24 (some v2) (some v14)) fun v15 H4 =>
 doQ (aE env.P H4 v2 24) fun v16 =>
 Q (.tup [v16,(.v (.int .i64 9))]) H4) (
 doQ (ak env.P (Heap.get H3) 24 (some v1)) fun v14 =>
 doW (an env true (limf env) (limt env 0) H3 (⟨0,28,Heap.gen H3 0 28,0⟩:Ref) (some (.fn (.func 30) [] [])) [v14]) fun v15 H4 =>
 doW (aw env.P H4 24 (some v1) (some v15)) fun v16 H5 =>
 doQ (ab env.P 24 (some v1) 1) fun v17 =>
 doQ (ak env.P (Heap.get H5) 3 (some v17)) fun v18 =>
 doQ (qBin env.P .add 3 (.tmp 30) (.const (.int .i64 1)) (some v18) (some (.v (.int .i64 1)))) fun v19 =>
 doQ (ab env.P 24 (some v1) 1) fun v20 =>
 doW (aw env.P H5 3 (some v20) (some v19)) fun v21 H6 =>
 doQ (ab env.P 24 (some v1) 2) fun v22 =>
 doW (aw env.P H6 3 (some v22) (some x1)) fun v23 H7 =>
 doQ (ab env.P 24 (some v1) 3) fun v24 =>
 doW (aw env.P H7 4 (some v24) (some (.v (.bool false)))) fun v25 H8 =>
 doQ (ak env.P (Heap.get H8) 24 (some v1)) fun v26 =>
 doW (aw env.P H8 24 (some v2) (some v26)) fun v27 H9 =>
 doQ (aE env.P H9 v2 24) fun v28 =>
 Q (.tup [v28,(.v (.int .i64 0))]) H9)))
theorem y9:iB=fun g x0 x1 H Q=>wp env Try.f9 none 0 Ac At Q 500 [.code pn] (ofL g [(0,x0),(1,x1)]) H:=by kernel_rfl
theorem zr (x0 x1:AV) (H:Heap) (Q:AV→Heap→Prop) (h : ∀g,iB g x0 x1 H Q):GoL env Try.f9 0 [.code pn] [(0,x0),(1,x1)] H Q:=⟨fun g=>bc (by have h:=h g;rw [y9] at h;exact h)⟩
noncomputable def rP:Code:=(Try.f10.body).getD .skip
def Dj:Nat→Option (List Nat):=fun i=>none
def DG:Nat→Bool:=fun i=>false
def rW (g:Nat→AV) (H:Heap) (Q:AV→Heap→Prop):Prop :=
 doW (nRes H (⟨0,0,Heap.gen H 0 0,0⟩:Ref) (bS env.P (⟨0,0,Heap.gen H 0 0,0⟩:Ref) 24)) fun v1 H1 =>
 doQ (bu env.P 24 (some [(2,(.v (.int .i64 (-1))))])) fun v2 =>
 doW (aw env.P H1 24 (some v1) (some v2)) fun v3 H2 =>
 doQ (aE env.P H2 v1 24) fun v4 =>
 Q v4 H2
theorem CE:rW=fun g  H Q=>wp env Try.f10 none 0 Dj DG Q 500 [.code rP] (ofL g []) H:=by kernel_rfl
theorem CM (H:Heap) (Q:AV→Heap→Prop) (h : ∀g,rW g  H Q):GoL env Try.f10 0 [.code rP] [] H Q:=⟨fun g=>bc (by have h:=h g;rw [CE] at h;exact h)⟩
noncomputable def jY:Code:=(Try.f27.body).getD .skip
def Aa:Nat→Option (List Nat):=fun i=>none
def As:Nat→Bool:=fun i=>false
def cF (g:Nat→AV) (x0 x1 x2:AV) (H:Heap) (Q:AV→Heap→Prop):Prop :=
 doW (nRes H (⟨0,3,Heap.gen H 0 3,0⟩:Ref) (qBox env.P (⟨0,3,Heap.gen H 0 3,0⟩:Ref) 24 (some x0))) fun v1 H1 =>
 doW (nRes H1 (⟨0,6,Heap.gen H1 0 6,0⟩:Ref) (bS env.P (⟨0,6,Heap.gen H1 0 6,0⟩:Ref) 24)) fun v2 H2 =>
 doQ (ak env.P (Heap.get H2) 24 (some v1)) fun v3 =>
 doW (an env true (limf env) (limt env 0) H2 (⟨0,13,Heap.gen H2 0 13,0⟩:Ref) (some (.fn (.func 40) [] [])) [v3,x1]) fun v4 H3 =>
 doQ (qBin env.P .neq 25 (.tmp 14) (.const (.int .i64 0)) (some v4) (some (.v (.int .i64 0)))) fun v5 =>
 br (some v5) (
 doQ (bu env.P 24 (some [])) fun v6 =>
 doW (aw env.P H3 24 (some v2) (some v6)) fun v7 H4 =>
 doQ (aE env.P H4 v2 24) fun v8 =>
 Q (.tup [v8,v4]) H4) (
 doQ (ay env.P false (Heap.get H3) (⟨0,19,Heap.gen H3 0 19,0⟩:Ref) .len #[68] [x2]) fun v6 =>
 doQ (qBin env.P .neq 3 (.tmp 19) (.const (.int .i64 128)) (some v6) (some (.v (.int .i64 128)))) fun v7 =>
 br (some v7) (
 doQ (bu env.P 24 (some [])) fun v8 =>
 doW (aw env.P H3 24 (some v2) (some v8)) fun v9 H4 =>
 doQ (aE env.P H4 v2 24) fun v10 =>
 Q (.tup [v10,(.v (.int .i64 2))]) H4) (
 doQ (ak env.P (Heap.get H3) 24 (some v1)) fun v8 =>
 doW (an env true (limf env) (limt env 0) H3 (⟨0,23,Heap.gen H3 0 23,0⟩:Ref) (some (.fn (.func 30) [] [])) [v8]) fun v9 H4 =>
 doW (aw env.P H4 24 (some v1) (some v9)) fun v10 H5 =>
 doQ (ab env.P 24 (some v1) 3) fun v11 =>
 doQ (ak env.P (Heap.get H5) 4 (some v11)) fun v12 =>
 gQ v12 false (ab env.P 24 (some v1) 2) fun v13 =>
 gQ v12 false (ak env.P (Heap.get H5) 3 (some v13)) fun v14 =>
 gQ v12 false (qBin env.P .eql 3 (.tmp 29) (.const (.int .i64 0)) (some v14) (some (.v (.int .i64 0)))) fun v15 =>
 doQ (a9 (some v12) (some (.v (.bool true))) (some v15)) fun v16 =>
 br (some v16) (
 doQ (ab env.P 24 (some v1) 3) fun v17 =>
 doW (aw env.P H5 4 (some v17) (some (.v (.bool true)))) fun v18 H6 =>
 doQ (ak env.P (Heap.get H6) 24 (some v1)) fun v19 =>
 doW (aw env.P H6 24 (some v2) (some v19)) fun v20 H7 =>
 doQ (aE env.P H7 v2 24) fun v21 =>
 Q (.tup [v21,(.v (.int .i64 0))]) H7) (
 doQ (ab env.P 24 (some v1) 2) fun v17 =>
 doQ (ak env.P (Heap.get H5) 3 (some v17)) fun v18 =>
 doQ (qBin env.P .gtr 3 (.tmp 36) (.const (.int .i64 0)) (some v18) (some (.v (.int .i64 0)))) fun v19 =>
 br (some v19) (
 doQ (ab env.P 24 (some v1) 2) fun v20 =>
 doQ (ak env.P (Heap.get H5) 3 (some v20)) fun v21 =>
 doQ (qBin env.P .sub 3 (.tmp 39) (.const (.int .i64 1)) (some v21) (some (.v (.int .i64 1)))) fun v22 =>
 doQ (ab env.P 24 (some v1) 2) fun v23 =>
 doW (aw env.P H5 3 (some v23) (some v22)) fun v24 H6 =>
 doQ (ak env.P (Heap.get H6) 24 (some v1)) fun v25 =>
 doW (an env true (limf env) (limt env 0) H6 (⟨0,45,Heap.gen H6 0 45,0⟩:Ref) (some (.fn (.func 41) [] [])) [v25,x1]) fun v26 H7 =>
 doQ (ao (some v26) 0) fun v27 =>
 doQ (ao (some v26) 1) fun v28 =>
 doQ (qUn env.P .not (some v28)) fun v29 =>
 br (some v29) (
 doQ (ab env.P 24 (some v1) 0) fun v30 =>
 doQ (ak env.P (Heap.get H7) 22 (some v30)) fun v31 =>
 doQ (bu env.P 94 (some [(0,x1)])) fun v32 =>
 doW (fU env.P false true H7 (⟨0,55,Heap.gen H7 0 55,0⟩:Ref) 22 1 (some [(0,v32)])) fun v33 H8 =>
 doW (an env true (limf env) (limt env 0) H8 (⟨0,56,Heap.gen H8 0 56,0⟩:Ref) (some (.fn (.func 42) [] [])) [v31,v27,v33]) fun v34 H9 =>
 doQ (ab env.P 24 (some v1) 0) fun v35 =>
 doW (aw env.P H9 22 (some v35) (some v34)) fun v36 H10 =>
 doQ (ab env.P 24 (some v1) 0) fun v37 =>
 doQ (ak env.P (Heap.get H10) 22 (some v37)) fun v38 =>
 doW (an env false (limf env) (limt env 0) H10 (⟨0,62,Heap.gen H10 0 62,0⟩:Ref) (some (.fn (.func 43) [] [])) [x2]) fun v39 H11 =>
 doQ (au env.P (Heap.get H11) 22 (some v38) (some v27)) fun v40 =>
 doQ (ab env.P 94 (some v40) 1) fun v41 =>
 doW (aw env.P H11 68 (some v41) (some v39)) fun v42 H12 =>
 doQ (ak env.P (Heap.get H12) 24 (some v1)) fun v43 =>
 doW (aw env.P H12 24 (some v2) (some v43)) fun v44 H13 =>
 doQ (aE env.P H13 v2 24) fun v45 =>
 Q (.tup [v45,(.v (.int .i64 0))]) H13) (
 doQ (ab env.P 24 (some v1) 0) fun v30 =>
 doQ (ak env.P (Heap.get H7) 22 (some v30)) fun v31 =>
 doW (an env false (limf env) (limt env 0) H7 (⟨0,62,Heap.gen H7 0 62,0⟩:Ref) (some (.fn (.func 43) [] [])) [x2]) fun v32 H8 =>
 doQ (au env.P (Heap.get H8) 22 (some v31) (some v27)) fun v33 =>
 doQ (ab env.P 94 (some v33) 1) fun v34 =>
 doW (aw env.P H8 68 (some v34) (some v32)) fun v35 H9 =>
 doQ (ak env.P (Heap.get H9) 24 (some v1)) fun v36 =>
 doW (aw env.P H9 24 (some v2) (some v36)) fun v37 H10 =>
 doQ (aE env.P H10 v2 24) fun v38 =>
 Q (.tup [v38,(.v (.int .i64 0))]) H10)) (
 doQ (ak env.P (Heap.get H5) 24 (some v1)) fun v20 =>
 doW (an env true (limf env) (limt env 0) H5 (⟨0,45,Heap.gen H5 0 45,0⟩:Ref) (some (.fn (.func 41) [] [])) [v20,x1]) fun v21 H6 =>
 doQ (ao (some v21) 0) fun v22 =>
 doQ (ao (some v21) 1) fun v23 =>
 doQ (qUn env.P .not (some v23)) fun v24 =>
 br (some v24) (
 doQ (ab env.P 24 (some v1) 0) fun v25 =>
 doQ (ak env.P (Heap.get H6) 22 (some v25)) fun v26 =>
 doQ (bu env.P 94 (some [(0,x1)])) fun v27 =>
 doW (fU env.P false true H6 (⟨0,55,Heap.gen H6 0 55,0⟩:Ref) 22 1 (some [(0,v27)])) fun v28 H7 =>
 doW (an env true (limf env) (limt env 0) H7 (⟨0,56,Heap.gen H7 0 56,0⟩:Ref) (some (.fn (.func 42) [] [])) [v26,v22,v28]) fun v29 H8 =>
 doQ (ab env.P 24 (some v1) 0) fun v30 =>
 doW (aw env.P H8 22 (some v30) (some v29)) fun v31 H9 =>
 doQ (ab env.P 24 (some v1) 0) fun v32 =>
 doQ (ak env.P (Heap.get H9) 22 (some v32)) fun v33 =>
 doW (an env false (limf env) (limt env 0) H9 (⟨0,62,Heap.gen H9 0 62,0⟩:Ref) (some (.fn (.func 43) [] [])) [x2]) fun v34 H10 =>
 doQ (au env.P (Heap.get H10) 22 (some v33) (some v22)) fun v35 =>
 doQ (ab env.P 94 (some v35) 1) fun v36 =>
 doW (aw env.P H10 68 (some v36) (some v34)) fun v37 H11 =>
 doQ (ak env.P (Heap.get H11) 24 (some v1)) fun v38 =>
 doW (aw env.P H11 24 (some v2) (some v38)) fun v39 H12 =>
 doQ (aE env.P H12 v2 24) fun v40 =>
 Q (.tup [v40,(.v (.int .i64 0))]) H12) (
 doQ (ab env.P 24 (some v1) 0) fun v25 =>
 doQ (ak env.P (Heap.get H6) 22 (some v25)) fun v26 =>
 doW (an env false (limf env) (limt env 0) H6 (⟨0,62,Heap.gen H6 0 62,0⟩:Ref) (some (.fn (.func 43) [] [])) [x2]) fun v27 H7 =>
 doQ (au env.P (Heap.get H7) 22 (some v26) (some v22)) fun v28 =>
 doQ (ab env.P 94 (some v28) 1) fun v29 =>
 doW (aw env.P H7 68 (some v29) (some v27)) fun v30 H8 =>
 doQ (ak env.P (Heap.get H8) 24 (some v1)) fun v31 =>
 doW (aw env.P H8 24 (some v2) (some v31)) fun v32 H9 =>
 doQ (aE env.P H9 v2 24) fun v33 =>
 Q (.tup [v33,(.v (.int .i64 0))]) H9)))))
theorem y8:cF=fun g x0 x1 x2 H Q=>wp env Try.f27 none 0 Aa As Q 500 [.code jY] (ofL g [(0,x0),(1,x1),(2,x2)]) H:=by kernel_rfl
theorem oK (x0 x1 x2:AV) (H:Heap) (Q:AV→Heap→Prop) (h : ∀g,cF g x0 x1 x2 H Q):GoL env Try.f27 0 [.code jY] [(0,x0),(1,x1),(2,x2)] H Q:=⟨fun g=>bc (by have h:=h g;rw [y8] at h;exact h)⟩
noncomputable def ma:Code:=(Try.f29.body).getD .skip
noncomputable def im:List Item:=(bQ 3 400 [.code ma]).getD []
def sH:Nat→Option (List Nat):=fun i=>cond (Nat.beq i 3) (some [9,3,7,1,8]) (none)
def sR:Nat→Bool:=fun i=>false
def px (g:Nat→AV) (x0:AV) (H:Heap) (Q:AV→Heap→Prop):Prop :=
 doW (nRes H (⟨0,1,Heap.gen H 0 1,0⟩:Ref) (qBox env.P (⟨0,1,Heap.gen H 0 1,0⟩:Ref) 24 (some x0))) fun v1 H1 =>
 doQ (ab env.P 24 (some v1) 0) fun v2 =>
 doQ (ak env.P (Heap.get H1) 22 (some v2)) fun v3 =>
 doQ (ay env.P false (Heap.get H1) (⟨0,8,Heap.gen H1 0 8,0⟩:Ref) .len #[22] [v3]) fun v4 =>
  GoL env Try.f29 0 im [(9,(.v (.int .i64 0))),(3,(.v (.int .i64 (-1)))),(7,v3),(1,v1),(8,v4)] H1 Q
theorem za:px=fun g x0 H Q=>wp env Try.f29 none 0 sH sR Q 500 [.code ma] (ofL g [(0,x0)]) H:=by kernel_rfl
theorem zt (x0:AV) (H:Heap) (Q:AV→Heap→Prop) (h : ∀g,px g x0 H Q):GoL env Try.f29 0 [.code ma] [(0,x0)] H Q:=⟨fun g=>bc (by have h:=h g;rw [za] at h;exact h)⟩
def j6 (g:Nat→AV) (x9 x3 x7 x1 x8:AV) (H:Heap) (Q:AV→Heap→Prop):Prop :=
 doQ (qBin env.P .lss 3 (.tmp 9) (.tmp 8) (some x9) (some x8)) fun v1 =>
 br (some v1) (
 doQ (au env.P (Heap.get H) 22 (some x7) (some x9)) fun v2 =>
 doQ (ak env.P (Heap.get H) 94 (some v2)) fun v3 =>
 doW (nRes H (⟨0,5,Heap.gen H 0 5,0⟩:Ref) (bS env.P (⟨0,5,Heap.gen H 0 5,0⟩:Ref) 94)) fun v4 H1 =>
 doW (aw env.P H1 94 (some v4) (some v3)) fun v5 H2 =>
 doQ (ab env.P 94 (some v4) 0) fun v6 =>
 doQ (ak env.P (Heap.get H2) 3 (some v6)) fun v7 =>
 doQ (qBin env.P .leq 3 (.tmp 14) (.tmp 15) (some v7) (some x3)) fun v8 =>
 gQ v8 false (ab env.P 94 (some v4) 0) fun v9 =>
 gQ v8 false (ak env.P (Heap.get H2) 3 (some v9)) fun v10 =>
 gQ v8 false (qBin env.P .geq 3 (.tmp 19) (.const (.int .i64 6146)) (some v10) (some (.v (.int .i64 6146)))) fun v11 =>
 doQ (a9 (some v8) (some (.v (.bool true))) (some v11)) fun v12 =>
 gQ v12 false (ab env.P 94 (some v4) 1) fun v13 =>
 gQ v12 false (ak env.P (Heap.get H2) 68 (some v13)) fun v14 =>
 gQ v12 false (ay env.P false (Heap.get H2) (⟨0,25,Heap.gen H2 0 25,0⟩:Ref) .len #[68] [v14]) fun v15 =>
 gQ v12 false (qBin env.P .neq 3 (.tmp 25) (.const (.int .i64 128)) (some v15) (some (.v (.int .i64 128)))) fun v16 =>
 doQ (a9 (some v12) (some (.v (.bool true))) (some v16)) fun v17 =>
 br (some v17) (
 Q (.v (.int .i64 8)) H2) (
 doQ (ab env.P 94 (some v4) 0) fun v18 =>
 doQ (ak env.P (Heap.get H2) 3 (some v18)) fun v19 =>
 doQ (qBin env.P .add 3 (.tmp 9) (.const (.int .i64 1)) (some x9) (some (.v (.int .i64 1)))) fun v20 =>
  GoL env Try.f29 0 im [(9,v20),(3,v19),(7,x7),(1,x1),(8,x8)] H2 Q)) (
 doQ (ab env.P 24 (some x1) 1) fun v2 =>
 doQ (ak env.P (Heap.get H) 3 (some v2)) fun v3 =>
 doQ (qBin env.P .lss 3 (.tmp 32) (.const (.int .i64 0)) (some v3) (some (.v (.int .i64 0)))) fun v4 =>
 gQ v4 false (ab env.P 24 (some x1) 1) fun v5 =>
 gQ v4 false (ak env.P (Heap.get H) 3 (some v5)) fun v6 =>
 gQ v4 false (qBin env.P .geq 3 (.tmp 36) (.const (.int .i64 2147483648)) (some v6) (some (.v (.int .i64 2147483648)))) fun v7 =>
 doQ (a9 (some v4) (some (.v (.bool true))) (some v7)) fun v8 =>
 gQ v8 false (ab env.P 24 (some x1) 2) fun v9 =>
 gQ v8 false (ak env.P (Heap.get H) 3 (some v9)) fun v10 =>
 gQ v8 false (qBin env.P .lss 3 (.tmp 41) (.const (.int .i64 (-1))) (some v10) (some (.v (.int .i64 (-1))))) fun v11 =>
 doQ (a9 (some v8) (some (.v (.bool true))) (some v11)) fun v12 =>
 gQ v12 false (ab env.P 24 (some x1) 2) fun v13 =>
 gQ v12 false (ak env.P (Heap.get H) 3 (some v13)) fun v14 =>
 gQ v12 false (qBin env.P .geq 3 (.tmp 46) (.const (.int .i64 2147483648)) (some v14) (some (.v (.int .i64 2147483648)))) fun v15 =>
 doQ (a9 (some v12) (some (.v (.bool true))) (some v15)) fun v16 =>
 gQ v16 false (ab env.P 24 (some x1) 3) fun v17 =>
 gQ v16 false (ak env.P (Heap.get H) 4 (some v17)) fun v18 =>
 gQ v16 false (qVal (some v18)) fun v19 =>
 gQ v19 true (ab env.P 24 (some x1) 2) fun v20 =>
 gQ v19 true (ak env.P (Heap.get H) 3 (some v20)) fun v21 =>
 gQ v19 true (qBin env.P .neq 3 (.tmp 54) (.const (.int .i64 0)) (some v21) (some (.v (.int .i64 0)))) fun v22 =>
 gQ v16 false (a9 (some v19) (some v22) (some (.v (.bool false)))) fun v23 =>
 doQ (a9 (some v16) (some (.v (.bool true))) (some v23)) fun v24 =>
 br (some v24) (
 Q (.v (.int .i64 8)) H) (
 Q (.v (.int .i64 0)) H))
theorem vu:j6=fun g x9 x3 x7 x1 x8 H Q=>wp env Try.f29 none 0 sH sR Q 500 (fu im) (ofL g [(9,x9),(3,x3),(7,x7),(1,x1),(8,x8)]) H:=by kernel_rfl
theorem pS (x9 x3 x7 x1 x8:AV) (H:Heap) (Q:AV→Heap→Prop) (h : ∀g,j6 g x9 x3 x7 x1 x8 H Q):GoL env Try.f29 0 im [(9,x9),(3,x3),(7,x7),(1,x1),(8,x8)] H Q:=cV fun g=>bc (by have h:=h g;rw [vu] at h;exact h)
noncomputable def nk:Code:=(Try.f30.body).getD .skip
noncomputable def iS:List Item:=(bQ 3 400 [.code nk]).getD []
def tS:Nat→Option (List Nat):=fun i=>cond (Nat.beq i 3) (some [10,3,2,1,9]) (none)
def tZ:Nat→Bool:=fun i=>false
def k7 (g:Nat→AV) (x0:AV) (H:Heap) (Q:AV→Heap→Prop):Prop :=
 doW (nRes H (⟨0,1,Heap.gen H 0 1,0⟩:Ref) (qBox env.P (⟨0,1,Heap.gen H 0 1,0⟩:Ref) 24 (some x0))) fun v1 H1 =>
 doW (nRes H1 (⟨0,2,Heap.gen H1 0 2,0⟩:Ref) (bS env.P (⟨0,2,Heap.gen H1 0 2,0⟩:Ref) 24)) fun v2 H2 =>
 doQ (ab env.P 24 (some v1) 0) fun v3 =>
 doQ (ak env.P (Heap.get H2) 22 (some v3)) fun v4 =>
 doW (an env true (limf env) (limt env 0) H2 (⟨0,7,Heap.gen H2 0 7,0⟩:Ref) (some (.fn (.func 44) [] [])) [v4]) fun v5 H3 =>
 doQ (ay env.P false (Heap.get H3) (⟨0,9,Heap.gen H3 0 9,0⟩:Ref) .len #[22] [v5]) fun v6 =>
  GoL env Try.f30 0 iS [(10,(.v (.int .i64 0))),(3,v5),(2,v2),(1,v1),(9,v6)] H3 Q
theorem AR:k7=fun g x0 H Q=>wp env Try.f30 none 0 tS tZ Q 500 [.code nk] (ofL g [(0,x0)]) H:=by kernel_rfl
theorem A9 (x0:AV) (H:Heap) (Q:AV→Heap→Prop) (h : ∀g,k7 g x0 H Q):GoL env Try.f30 0 [.code nk] [(0,x0)] H Q:=⟨fun g=>bc (by have h:=h g;rw [AR] at h;exact h)⟩
def gT (g:Nat→AV) (x10 x3 x2 x1 x9:AV) (H:Heap) (Q:AV→Heap→Prop):Prop :=
 doQ (qBin env.P .lss 3 (.tmp 10) (.tmp 9) (some x10) (some x9)) fun v1 =>
 br (some v1) (
 doQ (au env.P (Heap.get H) 22 (some x3) (some x10)) fun v2 =>
 doQ (ab env.P 94 (some v2) 1) fun v3 =>
 doQ (ak env.P (Heap.get H) 68 (some v3)) fun v4 =>
 doW (an env true (limf env) (limt env 0) H (⟨0,20,Heap.gen H 0 20,0⟩:Ref) (some (.fn (.func 43) [] [])) [v4]) fun v5 H1 =>
 doQ (au env.P (Heap.get H1) 22 (some x3) (some x10)) fun v6 =>
 doQ (ab env.P 94 (some v6) 1) fun v7 =>
 doW (aw env.P H1 68 (some v7) (some v5)) fun v8 H2 =>
 doQ (qBin env.P .add 3 (.tmp 10) (.const (.int .i64 1)) (some x10) (some (.v (.int .i64 1)))) fun v9 =>
  GoL env Try.f30 0 iS [(10,v9),(3,x3),(2,x2),(1,x1),(9,x9)] H2 Q) (
 doQ (ab env.P 24 (some x1) 0) fun v2 =>
 doW (aw env.P H 22 (some v2) (some x3)) fun v3 H1 =>
 doQ (ak env.P (Heap.get H1) 24 (some x1)) fun v4 =>
 doW (aw env.P H1 24 (some x2) (some v4)) fun v5 H2 =>
 doQ (aE env.P H2 x2 24) fun v6 =>
 Q v6 H2)
theorem xe:gT=fun g x10 x3 x2 x1 x9 H Q=>wp env Try.f30 none 0 tS tZ Q 500 (fu iS) (ofL g [(10,x10),(3,x3),(2,x2),(1,x1),(9,x9)]) H:=by kernel_rfl
theorem kA (x10 x3 x2 x1 x9:AV) (H:Heap) (Q:AV→Heap→Prop) (h : ∀g,gT g x10 x3 x2 x1 x9 H Q):GoL env Try.f30 0 iS [(10,x10),(3,x3),(2,x2),(1,x1),(9,x9)] H Q:=cV fun g=>bc (by have h:=h g;rw [xe] at h;exact h)
noncomputable def pk:Code:=(Try.f40.body).getD .skip
def z9:Nat→Option (List Nat):=fun i=>none
def Ar:Nat→Bool:=fun i=>false
def mg (g:Nat→AV) (x0 x1:AV) (H:Heap) (Q:AV→Heap→Prop):Prop :=
 doW (nRes H (⟨0,2,Heap.gen H 0 2,0⟩:Ref) (qBox env.P (⟨0,2,Heap.gen H 0 2,0⟩:Ref) 24 (some x0))) fun v1 H1 =>
 doQ (ak env.P (Heap.get H1) 24 (some v1)) fun v2 =>
 doW (an env true (limf env) (limt env 0) H1 (⟨0,7,Heap.gen H1 0 7,0⟩:Ref) (some (.fn (.func 29) [] [])) [v2]) fun v3 H2 =>
 doQ (qBin env.P .neq 25 (.tmp 8) (.const (.int .i64 0)) (some v3) (some (.v (.int .i64 0)))) fun v4 =>
 br (some v4) (
 Q v3 H2) (
 doQ (qBin env.P .lss 3 (.tmp 11) (.const (.int .i64 0)) (some x1) (some (.v (.int .i64 0)))) fun v5 =>
 gQ v5 false (qVal (some x1)) fun v6 =>
 gQ v5 false (qBin env.P .geq 3 (.tmp 14) (.const (.int .i64 6146)) (some v6) (some (.v (.int .i64 6146)))) fun v7 =>
 doQ (a9 (some v5) (some (.v (.bool true))) (some v7)) fun v8 =>
 br (some v8) (
 Q (.v (.int .i64 2)) H2) (
 Q (.v (.int .i64 0)) H2))
theorem y0:mg=fun g x0 x1 H Q=>wp env Try.f40 none 0 z9 Ar Q 500 [.code pk] (ofL g [(0,x0),(1,x1)]) H:=by kernel_rfl
theorem zq (x0 x1:AV) (H:Heap) (Q:AV→Heap→Prop) (h : ∀g,mg g x0 x1 H Q):GoL env Try.f40 0 [.code pk] [(0,x0),(1,x1)] H Q:=⟨fun g=>bc (by have h:=h g;rw [y0] at h;exact h)⟩
noncomputable def qq:Code:=(Try.f41.body).getD .skip
def BI:Nat→Option (List Nat):=fun i=>none
def Cd:Nat→Bool:=fun i=>false
def qA (g:Nat→AV) (x0 x1:AV) (H:Heap) (Q:AV→Heap→Prop):Prop :=
 doW (nRes H (⟨0,2,Heap.gen H 0 2,0⟩:Ref) (qBox env.P (⟨0,2,Heap.gen H 0 2,0⟩:Ref) 24 (some x0))) fun v1 H1 =>
 doQ (ab env.P 24 (some v1) 0) fun v2 =>
 doQ (ak env.P (Heap.get H1) 22 (some v2)) fun v3 =>
 doW (an env true (limf env) (limt env 0) H1 (⟨0,9,Heap.gen H1 0 9,0⟩:Ref) (some (.fn (.func 59) [] [])) [v3,x1,(.fn (.func 60) [] [])]) fun v4 H2 =>
 doQ (ao (some v4) 0) fun v5 =>
 doQ (ao (some v4) 1) fun v6 =>
 Q (.tup [v5,v6]) H2
theorem AQ:qA=fun g x0 x1 H Q=>wp env Try.f41 none 0 BI Cd Q 500 [.code qq] (ofL g [(0,x0),(1,x1)]) H:=by kernel_rfl
theorem A8 (x0 x1:AV) (H:Heap) (Q:AV→Heap→Prop) (h : ∀g,qA g x0 x1 H Q):GoL env Try.f41 0 [.code qq] [(0,x0),(1,x1)] H Q:=⟨fun g=>bc (by have h:=h g;rw [AQ] at h;exact h)⟩
noncomputable def rN:Code:=(Try.f43.body).getD .skip
def Di:Nat→Option (List Nat):=fun i=>none
def DF:Nat→Bool:=fun i=>false
def rV (g:Nat→AV) (x0:AV) (H:Heap) (Q:AV→Heap→Prop):Prop :=
 doQ (ay env.P false (Heap.get H) (⟨0,5,Heap.gen H 0 5,0⟩:Ref) .len #[68] [x0]) fun v1 =>
 doW (nRes H (⟨0,6,Heap.gen H 0 6,0⟩:Ref) (qV env.P (⟨0,6,Heap.gen H 0 6,0⟩:Ref) 68 (some v1) (some v1))) fun v2 H1 =>
 doW (sW env.P H1 (some 68) v2 x0) fun v3 H2 =>
 Q v2 H2
theorem CD:rV=fun g x0 H Q=>wp env Try.f43 none 0 Di DF Q 500 [.code rN] (ofL g [(0,x0)]) H:=by kernel_rfl
theorem CL (x0:AV) (H:Heap) (Q:AV→Heap→Prop) (h : ∀g,rV g x0 H Q):GoL env Try.f43 0 [.code rN] [(0,x0)] H Q:=⟨fun g=>bc (by have h:=h g;rw [CD] at h;exact h)⟩
noncomputable def aL:Code:=(Try.f44.body).getD .skip
def dR:Nat→Option (List Nat):=fun i=>none
def dS:Nat→Bool:=fun i=>false
def aM (g:Nat→AV) (x0:AV) (H:Heap) (Q:AV→Heap→Prop):Prop :=
 doQ (qBin env.P .eql 22 (.tmp 3) (.const (.slice none 0 0)) (some x0) (some (.v (.slice none 0 0)))) fun v1 =>
 br (some v1) (
 Q (.v (.slice none 0 0)) H) (
 doW (fU env.P false true H (⟨0,5,Heap.gen H 0 5,0⟩:Ref) 22 0 (some [])) fun v2 H1 =>
 doW (bM env.P true H1 (⟨0,7,Heap.gen H1 0 7,0⟩:Ref) (some 22) (some 22) v2 x0) fun v3 H2 =>
 Q v3 H2)
theorem dQ:aM=fun g x0 H Q=>wp env Try.f44 none 0 dR dS Q 500 [.code aL] (ofL g [(0,x0)]) H:=by kernel_rfl
theorem bm (x0:AV) (H:Heap) (Q:AV→Heap→Prop) (h : ∀g,aM g x0 H Q):GoL env Try.f44 0 [.code aL] [(0,x0)] H Q:=⟨fun g=>bc (by have h:=h g;rw [dQ] at h;exact h)⟩
noncomputable def qu:Code:=(Try.f49.body).getD .skip
def BJ:Nat→Option (List Nat):=fun i=>none
def Ce:Nat→Bool:=fun i=>false
def jx (g:Nat→AV) (x0 x1:AV) (H:Heap) (Q:AV→Heap→Prop):Prop :=
 doW (nRes H (⟨0,2,Heap.gen H 0 2,0⟩:Ref) (qBox env.P (⟨0,2,Heap.gen H 0 2,0⟩:Ref) 24 (some x0))) fun v1 H1 =>
 doQ (ak env.P (Heap.get H1) 24 (some v1)) fun v2 =>
 doW (an env true (limf env) (limt env 0) H1 (⟨0,11,Heap.gen H1 0 11,0⟩:Ref) (some (.fn (.func 40) [] [])) [v2,x1]) fun v3 H2 =>
 doQ (qBin env.P .neq 25 (.tmp 12) (.const (.int .i64 0)) (some v3) (some (.v (.int .i64 0)))) fun v4 =>
 br (some v4) (
 Q (.tup [(.v (.slice none 0 0)),v3]) H2) (
 doQ (ak env.P (Heap.get H2) 24 (some v1)) fun v5 =>
 doW (an env true (limf env) (limt env 0) H2 (⟨0,18,Heap.gen H2 0 18,0⟩:Ref) (some (.fn (.func 41) [] [])) [v5,x1]) fun v6 H3 =>
 doQ (ao (some v6) 0) fun v7 =>
 doQ (ao (some v6) 1) fun v8 =>
 doQ (qUn env.P .not (some v8)) fun v9 =>
 br (some v9) (
 doW (nRes H3 (⟨0,23,Heap.gen H3 0 23,0⟩:Ref) (qV env.P (⟨0,23,Heap.gen H3 0 23,0⟩:Ref) 68 (some (.v (.int .i64 128))) (some (.v (.int .i64 128))))) fun v10 H4 =>
 Q (.tup [v10,(.v (.int .i64 0))]) H4) (
 doQ (ab env.P 24 (some v1) 0) fun v10 =>
 doQ (ak env.P (Heap.get H3) 22 (some v10)) fun v11 =>
 doQ (au env.P (Heap.get H3) 22 (some v11) (some v7)) fun v12 =>
 doQ (ab env.P 94 (some v12) 1) fun v13 =>
 doQ (ak env.P (Heap.get H3) 68 (some v13)) fun v14 =>
 doW (an env true (limf env) (limt env 0) H3 (⟨0,30,Heap.gen H3 0 30,0⟩:Ref) (some (.fn (.func 43) [] [])) [v14]) fun v15 H4 =>
 Q (.tup [v15,(.v (.int .i64 0))]) H4))
theorem AS:jx=fun g x0 x1 H Q=>wp env Try.f49 none 0 BJ Ce Q 500 [.code qu] (ofL g [(0,x0),(1,x1)]) H:=by kernel_rfl
theorem Ba (x0 x1:AV) (H:Heap) (Q:AV→Heap→Prop) (h : ∀g,jx g x0 x1 H Q):GoL env Try.f49 0 [.code qu] [(0,x0),(1,x1)] H Q:=⟨fun g=>bc (by have h:=h g;rw [AS] at h;exact h)⟩
noncomputable def aH:Code:=(Try.f59.body).getD .skip
noncomputable def ax:List Item:=(bQ 3 400 [.code aH]).getD []
def bw:Nat→Option (List Nat):=fun i=>cond (Nat.beq i 3) (some [1,0,2,10,9,8]) (none)
def bx:Nat→Bool:=fun i=>false
def aW (g:Nat→AV) (x0 x1 x2:AV) (H:Heap) (Q:AV→Heap→Prop):Prop :=
 doQ (ay env.P false (Heap.get H) (⟨0,13,Heap.gen H 0 13,0⟩:Ref) .len #[22] [x0]) fun v1 =>
  GoL env Try.f59 0 ax [(1,x1),(0,x0),(2,x2),(10,v1),(9,(.v (.int .i64 0))),(8,v1)] H Q
theorem cR:aW=fun g x0 x1 x2 H Q=>wp env Try.f59 none 0 bw bx Q 500 [.code aH] (ofL g [(0,x0),(1,x1),(2,x2)]) H:=by kernel_rfl
theorem cS (x0 x1 x2:AV) (H:Heap) (Q:AV→Heap→Prop) (h : ∀g,aW g x0 x1 x2 H Q):GoL env Try.f59 0 [.code aH] [(0,x0),(1,x1),(2,x2)] H Q:=⟨fun g=>bc (by have h:=h g;rw [cR] at h;exact h)⟩
def aD (g:Nat→AV) (x1 x0 x2 x10 x9 x8:AV) (H:Heap) (Q:AV→Heap→Prop):Prop :=
 doQ (qBin env.P .lss 3 (.tmp 15) (.tmp 16) (some x9) (some x10)) fun v1 =>
 br (some v1) (
 doQ (qBin env.P .add 3 (.tmp 18) (.tmp 19) (some x9) (some x10)) fun v2 =>
 doQ (aJ env.P (Heap.get H) (⟨0,21,Heap.gen H 0 21,0⟩:Ref) 3 119 (some v2)) fun v3 =>
 doQ (qBin env.P .shr 119 (.tmp 21) (.const (.int .u64 1)) (some v3) (some (.v (.int .u64 1)))) fun v4 =>
 doQ (aJ env.P (Heap.get H) (⟨0,23,Heap.gen H 0 23,0⟩:Ref) 119 3 (some v4)) fun v5 =>
 doQ (au env.P (Heap.get H) 22 (some x0) (some v5)) fun v6 =>
 doQ (ak env.P (Heap.get H) 94 (some v6)) fun v7 =>
 doW (an env true (limf env) (limt env 0) H (⟨0,30,Heap.gen H 0 30,0⟩:Ref) (some x2) [v7,x1]) fun v8 H1 =>
 doQ (qBin env.P .lss 3 (.tmp 30) (.const (.int .i64 0)) (some v8) (some (.v (.int .i64 0)))) fun v9 =>
 br (some v9) (
 doQ (qBin env.P .add 3 (.tmp 32) (.const (.int .i64 1)) (some v5) (some (.v (.int .i64 1)))) fun v10 =>
  GoL env Try.f59 0 ax [(1,x1),(0,x0),(2,x2),(10,x10),(9,v10),(8,x8)] H1 Q) (
  GoL env Try.f59 0 ax [(1,x1),(0,x0),(2,x2),(10,v5),(9,x9),(8,x8)] H1 Q)) (
 doQ (qBin env.P .lss 3 (.tmp 36) (.tmp 37) (some x9) (some x8)) fun v2 =>
 gQ v2 true (qVal (some x2)) fun v3 =>
 gQ v2 true (qVal (some x0)) fun v4 =>
 gQ v2 true (qVal (some x9)) fun v5 =>
 gQ v2 true (au env.P (Heap.get H) 22 (some v4) (some v5)) fun v6 =>
 gQ v2 true (ak env.P (Heap.get H) 94 (some v6)) fun v7 =>
 gQ v2 true (qVal (some x1)) fun v8 =>
 gW v2 true H (an env true (limf env) (limt env 0) H (⟨0,46,Heap.gen H 0 46,0⟩:Ref) (some v3) [v7,v8]) fun v9 H1 =>
 gQ v2 true (qBin env.P .eql 3 (.tmp 46) (.const (.int .i64 0)) (some v9) (some (.v (.int .i64 0)))) fun v10 =>
 doQ (a9 (some v2) (some v10) (some (.v (.bool false)))) fun v11 =>
 Q (.tup [x9,v11]) H1)
theorem cK:aD=fun g x1 x0 x2 x10 x9 x8 H Q=>wp env Try.f59 none 0 bw bx Q 500 (fu ax) (ofL g [(1,x1),(0,x0),(2,x2),(10,x10),(9,x9),(8,x8)]) H:=by kernel_rfl
theorem bt (x1 x0 x2 x10 x9 x8:AV) (H:Heap) (Q:AV→Heap→Prop) (h : ∀g,aD g x1 x0 x2 x10 x9 x8 H Q):GoL env Try.f59 0 ax [(1,x1),(0,x0),(2,x2),(10,x10),(9,x9),(8,x8)] H Q:=cV fun g=>bc (by have h:=h g;rw [cK] at h;exact h)
noncomputable def nM:Code:=(Try.f60.body).getD .skip
def xG:Nat→Option (List Nat):=fun i=>none
def xS:Nat→Bool:=fun i=>false
def nU (g:Nat→AV) (x0 x1:AV) (H:Heap) (Q:AV→Heap→Prop):Prop :=
 doW (nRes H (⟨0,2,Heap.gen H 0 2,0⟩:Ref) (qBox env.P (⟨0,2,Heap.gen H 0 2,0⟩:Ref) 94 (some x0))) fun v1 H1 =>
 doQ (ab env.P 94 (some v1) 0) fun v2 =>
 doQ (ak env.P (Heap.get H1) 3 (some v2)) fun v3 =>
 doW (an env true (limf env) (limt env 0) H1 (⟨0,8,Heap.gen H1 0 8,0⟩:Ref) (some (.fn (.func 61) [] [])) [v3,x1]) fun v4 H2 =>
 Q v4 H2
theorem xd:nU=fun g x0 x1 H Q=>wp env Try.f60 none 0 xG xS Q 500 [.code nM] (ofL g [(0,x0),(1,x1)]) H:=by kernel_rfl
theorem xr (x0 x1:AV) (H:Heap) (Q:AV→Heap→Prop) (h : ∀g,nU g x0 x1 H Q):GoL env Try.f60 0 [.code nM] [(0,x0),(1,x1)] H Q:=⟨fun g=>bc (by have h:=h g;rw [xd] at h;exact h)⟩
noncomputable def jq:Code:=(Try.f61.body).getD .skip
def rD:Nat→Option (List Nat):=fun i=>none
def rH:Nat→Bool:=fun i=>false
def jr (g:Nat→AV) (x0 x1:AV) (H:Heap) (Q:AV→Heap→Prop):Prop :=
 doW (an env true (limf env) (limt env 0) H (⟨0,8,Heap.gen H 0 8,0⟩:Ref) (some (.fn (.func 79) [] [])) [x0]) fun v1 H1 =>
 doW (an env true (limf env) (limt env 0) H1 (⟨0,10,Heap.gen H1 0 10,0⟩:Ref) (some (.fn (.func 79) [] [])) [x1]) fun v2 H2 =>
 br (some v1) (
 br (some v2) (
 Q (.v (.int .i64 0)) H2) (
 Q (.v (.int .i64 (-1))) H2)) (
 br (some v2) (
 Q (.v (.int .i64 1)) H2) (
 doQ (qBin env.P .lss 3 (.tmp 14) (.tmp 15) (some x0) (some x1)) fun v3 =>
 br (some v3) (
 Q (.v (.int .i64 (-1))) H2) (
 doQ (qBin env.P .gtr 3 (.tmp 17) (.tmp 18) (some x0) (some x1)) fun v4 =>
 br (some v4) (
 Q (.v (.int .i64 1)) H2) (
 Q (.v (.int .i64 0)) H2))))
theorem rk:jr=fun g x0 x1 H Q=>wp env Try.f61 none 0 rD rH Q 500 [.code jq] (ofL g [(0,x0),(1,x1)]) H:=by kernel_rfl
theorem rn (x0 x1:AV) (H:Heap) (Q:AV→Heap→Prop) (h : ∀g,jr g x0 x1 H Q):GoL env Try.f61 0 [.code jq] [(0,x0),(1,x1)] H Q:=⟨fun g=>bc (by have h:=h g;rw [rk] at h;exact h)⟩
noncomputable def ky:Code:=(Try.f79.body).getD .skip
def tn:Nat→Option (List Nat):=fun i=>none
def tv:Nat→Bool:=fun i=>false
def kz (g:Nat→AV) (x0:AV) (H:Heap) (Q:AV→Heap→Prop):Prop :=
 doQ (qBin env.P .neq 3 (.tmp 3) (.tmp 4) (some x0) (some x0)) fun v1 =>
 Q v1 H
theorem sX:kz=fun g x0 H Q=>wp env Try.f79 none 0 tn tv Q 500 [.code ky] (ofL g [(0,x0)]) H:=by kernel_rfl
theorem sY (x0:AV) (H:Heap) (Q:AV→Heap→Prop) (h : ∀g,kz g x0 H Q):GoL env Try.f79 0 [.code ky] [(0,x0)] H Q:=⟨fun g=>bc (by have h:=h g;rw [sX] at h;exact h)⟩
noncomputable def eB:Code:=(Try.f26.body).getD .skip
noncomputable def c9:List Item:=(bQ 3 400 [.code eB]).getD []
def ju:Nat→Option (List Nat):=fun i=>cond (Nat.beq i 3) (some [4,1,3]) (none)
def jw:Nat→Bool:=fun i=>false
def eC (g:Nat→AV) (x0:AV) (H:Heap) (Q:AV→Heap→Prop):Prop :=
 doW (nRes H (⟨0,1,Heap.gen H 0 1,0⟩:Ref) (qBox env.P (⟨0,1,Heap.gen H 0 1,0⟩:Ref) 24 (some x0))) fun v1 H1 =>
  GoL env Try.f26 0 c9 [(4,(.v (.int .i64 0))),(1,v1),(3,(.v (.int .i64 0)))] H1 Q
theorem nX:eC=fun g x0 H Q=>wp env Try.f26 none 0 ju jw Q 500 [.code eB] (ofL g [(0,x0)]) H:=by kernel_rfl
theorem n8 (x0:AV) (H:Heap) (Q:AV→Heap→Prop) (h : ∀g,eC g x0 H Q):GoL env Try.f26 0 [.code eB] [(0,x0)] H Q:=⟨fun g=>bc (by have h:=h g;rw [nX] at h;exact h)⟩
def da (g:Nat→AV) (x4 x1 x3:AV) (H:Heap) (Q:AV→Heap→Prop):Prop :=
 doQ (ab env.P 24 (some x1) 0) fun v1 =>
 doQ (ak env.P (Heap.get H) 22 (some v1)) fun v2 =>
 doQ (ay env.P false (Heap.get H) (⟨0,8,Heap.gen H 0 8,0⟩:Ref) .len #[22] [v2]) fun v3 =>
 doQ (qBin env.P .lss 3 (.tmp 5) (.tmp 8) (some x4) (some v3)) fun v4 =>
 gQ v4 true (qVal (some x4)) fun v5 =>
 gQ v4 true (qBin env.P .lss 3 (.tmp 11) (.const (.int .i64 300)) (some v5) (some (.v (.int .i64 300)))) fun v6 =>
 doQ (a9 (some v4) (some v6) (some (.v (.bool false)))) fun v7 =>
 br (some v7) (
 doQ (ab env.P 24 (some x1) 0) fun v8 =>
 doQ (ak env.P (Heap.get H) 22 (some v8)) fun v9 =>
 doQ (au env.P (Heap.get H) 22 (some v9) (some x4)) fun v10 =>
 doQ (ab env.P 94 (some v10) 1) fun v11 =>
 doQ (ak env.P (Heap.get H) 68 (some v11)) fun v12 =>
 doQ (ay env.P false (Heap.get H) (⟨0,23,Heap.gen H 0 23,0⟩:Ref) .len #[68] [v12]) fun v13 =>
 doQ (ay env.P false (Heap.get H) (⟨0,24,Heap.gen H 0 24,0⟩:Ref) .min #[3,3] [v13,(.v (.int .i64 10000))]) fun v14 =>
 doQ (qBin env.P .add 3 (.tmp 16) (.tmp 24) (some x3) (some v14)) fun v15 =>
 doQ (qBin env.P .add 3 (.tmp 14) (.const (.int .i64 1)) (some x4) (some (.v (.int .i64 1)))) fun v16 =>
  GoL env Try.f26 0 c9 [(4,v16),(1,x1),(3,v15)] H Q) (
 doQ (ab env.P 24 (some x1) 0) fun v8 =>
 doQ (ak env.P (Heap.get H) 22 (some v8)) fun v9 =>
 doQ (ay env.P false (Heap.get H) (⟨0,28,Heap.gen H 0 28,0⟩:Ref) .len #[22] [v9]) fun v10 =>
 doQ (qBin env.P .gtr 3 (.tmp 28) (.const (.int .i64 200)) (some v10) (some (.v (.int .i64 200)))) fun v11 =>
 gQ v11 false (qVal (some x3)) fun v12 =>
 gQ v11 false (qBin env.P .gtr 3 (.tmp 31) (.const (.int .i64 40000)) (some v12) (some (.v (.int .i64 40000)))) fun v13 =>
 doQ (a9 (some v11) (some (.v (.bool true))) (some v13)) fun v14 =>
 Q v14 H)
theorem mS:da=fun g x4 x1 x3 H Q=>wp env Try.f26 none 0 ju jw Q 500 (fu c9) (ofL g [(4,x4),(1,x1),(3,x3)]) H:=by kernel_rfl
theorem iC (x4 x1 x3:AV) (H:Heap) (Q:AV→Heap→Prop) (h : ∀g,da g x4 x1 x3 H Q):GoL env Try.f26 0 c9 [(4,x4),(1,x1),(3,x3)] H Q:=cV fun g=>bc (by have h:=h g;rw [mS] at h;exact h)
end Go.Proofs.Ytmjkpdknicjjgaa
