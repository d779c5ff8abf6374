/-
  What is to be shown of each function, computed from its code. No statement of a seat is proved here.
-/
import Derived.Test.YtmjkpdknicjjgaaLgTy
set_option linter.unusedVariables false
set_option maxRecDepth 1000000
namespace Go.Proofs.Ytmjkpdknicjjgaa
open Go.Ab
noncomputable def eW:Code:=(Try.f70.body).getD .skip
noncomputable def dt:List Item:=(bP 4 400 [.code eW]).getD []
def jM:Nat→Option (List Nat):=fun i=>cond (Nat.beq i 4) (some [5,1,0]) (none)
def jX:Nat→Bool:=fun i=>false
def eX (g:Nat→AV) (x0 x1:AV) (H:Heap) (Q:AV→Heap→Prop):Prop :=
 doQ (ay env.P false (Heap.get H) (⟨0,7,Heap.gen H 0 7,0⟩:Ref) .len #[40] [x0]) fun v1 =>
 doQ (ay env.P false (Heap.get H) (⟨0,9,Heap.gen H 0 9,0⟩:Ref) .len #[40] [x1]) fun v2 =>
 doQ (qBin env.P .neq 3 (.tmp 7) (.tmp 9) (some v1) (some v2)) fun v3 =>
 br (some v3) (
 Q (.v (.bool false)) H) (
  GoL env Try.f70 0 dt [(5,(.v (.int .i64 0))),(1,x1),(0,x0)] H Q)
theorem oP:eX=fun g x0 x1 H Q=>wp env Try.f70 none 0 jM jX Q 500 [.code eW] (ofL g [(0,x0),(1,x1)]) H:=by kernel_rfl
theorem oU (x0 x1:AV) (H:Heap) (Q:AV→Heap→Prop) (h : ∀g,eX g x0 x1 H Q):GoL env Try.f70 0 [.code eW] [(0,x0),(1,x1)] H Q:=⟨fun g=>bg (by have h:=h g;rw [oP] at h;exact h)⟩
def dx (g:Nat→AV) (x5 x1 x0:AV) (H:Heap) (Q:AV→Heap→Prop):Prop :=
 doQ (ay env.P false (Heap.get H) (⟨0,13,Heap.gen H 0 13,0⟩:Ref) .len #[40] [x0]) fun v1 =>
 doQ (qBin env.P .lss 3 (.tmp 11) (.tmp 13) (some x5) (some v1)) fun v2 =>
 br (some v2) (
 doQ (au env.P (Heap.get H) 40 (some x0) (some x5)) fun v3 =>
 doQ (an env.P (Heap.get H) 21 (some v3)) fun v4 =>
 doQ (au env.P (Heap.get H) 40 (some x1) (some x5)) fun v5 =>
 doQ (an env.P (Heap.get H) 21 (some v5)) fun v6 =>
 doQ (qBin env.P .neq 21 (.tmp 20) (.tmp 24) (some v4) (some v6)) fun v7 =>
 br (some v7) (
 Q (.v (.bool false)) H) (
 doQ (qBin env.P .add 3 (.tmp 15) (.const (.int .i64 1)) (some x5) (some (.v (.int .i64 1)))) fun v8 =>
  GoL env Try.f70 0 dt [(5,v8),(1,x1),(0,x0)] H Q)) (
 Q (.v (.bool true)) H)
theorem nw:dx=fun g x5 x1 x0 H Q=>wp env Try.f70 none 0 jM jX Q 500 (fk dt) (ofL g [(5,x5),(1,x1),(0,x0)]) H:=by kernel_rfl
theorem iR (x5 x1 x0:AV) (H:Heap) (Q:AV→Heap→Prop) (h : ∀g,dx g x5 x1 x0 H Q):GoL env Try.f70 0 dt [(5,x5),(1,x1),(0,x0)] H Q:=cQ fun g=>bg (by have h:=h g;rw [nw] at h;exact h)
noncomputable def j2:Code:=(Try.f71.body).getD .skip
def sR:Nat→Option (List Nat):=fun i=>none
def s9:Nat→Bool:=fun i=>false
def j8 (g:Nat→AV) (x0:AV) (H:Heap) (Q:AV→Heap→Prop):Prop :=
 doW (nRes H (⟨0,1,Heap.gen H 0 1,0⟩:Ref) (qBox env.P (⟨0,1,Heap.gen H 0 1,0⟩:Ref) 35 (some x0))) fun v1 H1 =>
 doQ (ab env.P 35 (some v1) 0) fun v2 =>
 doQ (an env.P (Heap.get H1) 33 (some v2)) fun v3 =>
 doW (ak env true (limf env) (limt env 0) H1 (⟨0,5,Heap.gen H1 0 5,0⟩:Ref) (some (.fn (.func 85) [] [])) [v3]) fun v4 H2 =>
 doQ (qBin env.P .eql 25 (.tmp 5) (.const (.int .i64 0)) (some v4) (some (.v (.int .i64 0)))) fun v5 =>
 gQ v5 true (ab env.P 35 (some v1) 1) fun v6 =>
 gQ v5 true (an env.P (Heap.get H2) 5 (some v6)) fun v7 =>
 gQ v5 true (qBin env.P .lss 5 (.tmp 9) (.const (.int .u8 8)) (some v7) (some (a8 8))) fun v8 =>
 doQ (aY (some v5) (some v8) (some (.v (.bool false)))) fun v9 =>
 doW (ak env true (limf env) (limt env 0) H2 (⟨0,12,Heap.gen H2 0 12,0⟩:Ref) (some (.fn (.func 84) [] [])) [v9]) fun v10 H3 =>
 Q v10 H3
theorem sh:j8=fun g x0 H Q=>wp env Try.f71 none 0 sR s9 Q 500 [.code j2] (ofL g [(0,x0)]) H:=by kernel_rfl
theorem sq (x0:AV) (H:Heap) (Q:AV→Heap→Prop) (h : ∀g,j8 g x0 H Q):GoL env Try.f71 0 [.code j2] [(0,x0)] H Q:=⟨fun g=>bg (by have h:=h g;rw [sh] at h;exact h)⟩
noncomputable def lO:Code:=(Try.f86.body).getD .skip
def uY:Nat→Option (List Nat):=fun i=>none
def vf:Nat→Bool:=fun i=>false
def fB (g:Nat→AV) (x0:AV) (H:Heap) (Q:AV→Heap→Prop):Prop :=
 doW (nRes H (⟨0,1,Heap.gen H 0 1,0⟩:Ref) (qBox env.P (⟨0,1,Heap.gen H 0 1,0⟩:Ref) 39 (some x0))) fun v1 H1 =>
 doQ (ab env.P 39 (some v1) 0) fun v2 =>
 doQ (an env.P (Heap.get H1) 37 (some v2)) fun v3 =>
 doW (ak env true (limf env) (limt env 0) H1 (⟨0,5,Heap.gen H1 0 5,0⟩:Ref) (some (.fn (.func 88) [] [])) [v3]) fun v4 H2 =>
 doQ (qBin env.P .eql 25 (.tmp 5) (.const (.int .i64 0)) (some v4) (some (.v (.int .i64 0)))) fun v5 =>
 gQ v5 true (ab env.P 39 (some v1) 1) fun v6 =>
 gQ v5 true (an env.P (Heap.get H2) 3 (some v6)) fun v7 =>
 gQ v5 true (qBin env.P .geq 3 (.tmp 9) (.const (.int .i64 1)) (some v7) (some (.v (.int .i64 1)))) fun v8 =>
 doQ (aY (some v5) (some v8) (some (.v (.bool false)))) fun v9 =>
 gQ v9 true (ab env.P 39 (some v1) 1) fun v10 =>
 gQ v9 true (an env.P (Heap.get H2) 3 (some v10)) fun v11 =>
 gQ v9 true (qBin env.P .leq 3 (.tmp 14) (.const (.int .i64 64)) (some v11) (some (.v (.int .i64 64)))) fun v12 =>
 doQ (aY (some v9) (some v12) (some (.v (.bool false)))) fun v13 =>
 gQ v13 true (ab env.P 39 (some v1) 0) fun v14 =>
 gQ v13 true (ab env.P 37 (some v14) 1) fun v15 =>
 gQ v13 true (an env.P (Heap.get H2) 3 (some v15)) fun v16 =>
 gQ v13 true (ab env.P 39 (some v1) 1) fun v17 =>
 gQ v13 true (an env.P (Heap.get H2) 3 (some v17)) fun v18 =>
 gQ v13 true (qBin env.P .add 3 (.tmp 20) (.tmp 22) (some v16) (some v18)) fun v19 =>
 gQ v13 true (qBin env.P .sub 3 (.tmp 23) (.const (.int .i64 1)) (some v19) (some (.v (.int .i64 1)))) fun v20 =>
 gQ v13 true (qBin env.P .leq 3 (.tmp 24) (.const (.int .i64 1099511627776)) (some v20) (some (.v (.int .i64 1099511627776)))) fun v21 =>
 doQ (aY (some v13) (some v21) (some (.v (.bool false)))) fun v22 =>
 doW (ak env true (limf env) (limt env 0) H2 (⟨0,27,Heap.gen H2 0 27,0⟩:Ref) (some (.fn (.func 84) [] [])) [v22]) fun v23 H3 =>
 Q v23 H3
theorem uL:fB=fun g x0 H Q=>wp env Try.f86 none 0 uY vf Q 500 [.code lO] (ofL g [(0,x0)]) H:=by kernel_rfl
theorem uQ (x0:AV) (H:Heap) (Q:AV→Heap→Prop) (h : ∀g,fB g x0 H Q):GoL env Try.f86 0 [.code lO] [(0,x0)] H Q:=⟨fun g=>bg (by have h:=h g;rw [uL] at h;exact h)⟩
noncomputable def dg:Code:=(Try.f92.body).getD .skip
noncomputable def cr:List Item:=(bP 4 400 [.code dg]).getD []
def gl:Nat→Option (List Nat):=fun i=>cond (Nat.beq i 4) (some [13,1,0,12]) (none)
def gq:Nat→Bool:=fun i=>false
def dh (g:Nat→AV) (x0 x1:AV) (H:Heap) (Q:AV→Heap→Prop):Prop :=
 doQ (ay env.P false (Heap.get H) (⟨0,7,Heap.gen H 0 7,0⟩:Ref) .len #[40] [x0]) fun v1 =>
 doQ (ay env.P false (Heap.get H) (⟨0,9,Heap.gen H 0 9,0⟩:Ref) .len #[40] [x1]) fun v2 =>
 doQ (qBin env.P .neq 3 (.tmp 7) (.tmp 9) (some v1) (some v2)) fun v3 =>
 br (some v3) (
 Q (.v (.bool false)) H) (
 doQ (ay env.P false (Heap.get H) (⟨0,12,Heap.gen H 0 12,0⟩:Ref) .len #[40] [x0]) fun v4 =>
  GoL env Try.f92 0 cr [(13,(.v (.int .i64 0))),(1,x1),(0,x0),(12,v4)] H Q)
theorem kS:dh=fun g x0 x1 H Q=>wp env Try.f92 none 0 gl gq Q 500 [.code dg] (ofL g [(0,x0),(1,x1)]) H:=by kernel_rfl
theorem kV (x0 x1:AV) (H:Heap) (Q:AV→Heap→Prop) (h : ∀g,dh g x0 x1 H Q):GoL env Try.f92 0 [.code dg] [(0,x0),(1,x1)] H Q:=⟨fun g=>bg (by have h:=h g;rw [kS] at h;exact h)⟩
def cu (g:Nat→AV) (x13 x1 x0 x12:AV) (H:Heap) (Q:AV→Heap→Prop):Prop :=
 doQ (qBin env.P .lss 3 (.tmp 13) (.tmp 12) (some x13) (some x12)) fun v1 =>
 br (some v1) (
 doQ (au env.P (Heap.get H) 40 (some x0) (some x13)) fun v2 =>
 doQ (an env.P (Heap.get H) 21 (some v2)) fun v3 =>
 doQ (au env.P (Heap.get H) 40 (some x1) (some x13)) fun v4 =>
 doQ (an env.P (Heap.get H) 21 (some v4)) fun v5 =>
 doQ (qBin env.P .neq 21 (.tmp 19) (.tmp 23) (some v3) (some v5)) fun v6 =>
 br (some v6) (
 Q (.v (.bool false)) H) (
 doQ (qBin env.P .add 3 (.tmp 13) (.const (.int .i64 1)) (some x13) (some (.v (.int .i64 1)))) fun v7 =>
  GoL env Try.f92 0 cr [(13,v7),(1,x1),(0,x0),(12,x12)] H Q)) (
 Q (.v (.bool true)) H)
theorem kf:cu=fun g x13 x1 x0 x12 H Q=>wp env Try.f92 none 0 gl gq Q 500 (fk cr) (ofL g [(13,x13),(1,x1),(0,x0),(12,x12)]) H:=by kernel_rfl
theorem fP (x13 x1 x0 x12:AV) (H:Heap) (Q:AV→Heap→Prop) (h : ∀g,cu g x13 x1 x0 x12 H Q):GoL env Try.f92 0 cr [(13,x13),(1,x1),(0,x0),(12,x12)] H Q:=cQ fun g=>bg (by have h:=h g;rw [kf] at h;exact h)
noncomputable def qz:Code:=(Try.f88.body).getD .skip
def BO:Nat→Option (List Nat):=fun i=>none
def Ck:Nat→Bool:=fun i=>false
def qH (g:Nat→AV) (x0:AV) (H:Heap) (Q:AV→Heap→Prop):Prop :=
 doW (nRes H (⟨0,1,Heap.gen H 0 1,0⟩:Ref) (qBox env.P (⟨0,1,Heap.gen H 0 1,0⟩:Ref) 37 (some x0))) fun v1 H1 =>
 doQ (ab env.P 37 (some v1) 0) fun v2 =>
 doQ (an env.P (Heap.get H1) 35 (some v2)) fun v3 =>
 doW (ak env true (limf env) (limt env 0) H1 (⟨0,5,Heap.gen H1 0 5,0⟩:Ref) (some (.fn (.func 71) [] [])) [v3]) fun v4 H2 =>
 doQ (qBin env.P .eql 25 (.tmp 5) (.const (.int .i64 0)) (some v4) (some (.v (.int .i64 0)))) fun v5 =>
 gQ v5 true (ab env.P 37 (some v1) 1) fun v6 =>
 gQ v5 true (an env.P (Heap.get H2) 3 (some v6)) fun v7 =>
 gQ v5 true (qBin env.P .geq 3 (.tmp 9) (.const (.int .i64 1)) (some v7) (some (.v (.int .i64 1)))) fun v8 =>
 doQ (aY (some v5) (some v8) (some (.v (.bool false)))) fun v9 =>
 gQ v9 true (ab env.P 37 (some v1) 1) fun v10 =>
 gQ v9 true (an env.P (Heap.get H2) 3 (some v10)) fun v11 =>
 gQ v9 true (qBin env.P .leq 3 (.tmp 14) (.const (.int .i64 1099511627776)) (some v11) (some (.v (.int .i64 1099511627776)))) fun v12 =>
 doQ (aY (some v9) (some v12) (some (.v (.bool false)))) fun v13 =>
 doW (ak env true (limf env) (limt env 0) H2 (⟨0,17,Heap.gen H2 0 17,0⟩:Ref) (some (.fn (.func 84) [] [])) [v13]) fun v14 H3 =>
 Q v14 H3
theorem A0:qH=fun g x0 H Q=>wp env Try.f88 none 0 BO Ck Q 500 [.code qz] (ofL g [(0,x0)]) H:=by kernel_rfl
theorem Bi (x0:AV) (H:Heap) (Q:AV→Heap→Prop) (h : ∀g,qH g x0 H Q):GoL env Try.f88 0 [.code qz] [(0,x0)] H Q:=⟨fun g=>bg (by have h:=h g;rw [A0] at h;exact h)⟩
noncomputable def nI:Code:=(Try.f89.body).getD .skip
def xL:Nat→Option (List Nat):=fun i=>none
def xX:Nat→Bool:=fun i=>false
def kN (g:Nat→AV) (x0:AV) (H:Heap) (Q:AV→Heap→Prop):Prop :=
 doQ (ay env.P false (Heap.get H) (⟨0,6,Heap.gen H 0 6,0⟩:Ref) .len #[40] [x0]) fun v1 =>
 doQ (qBin env.P .gtr 3 (.tmp 6) (.const (.int .i64 64)) (some v1) (some (.v (.int .i64 64)))) fun v2 =>
 br (some v2) (
 Q (.v (.int .i64 4)) H) (
 doW (ak env true (limf env) (limt env 0) H (⟨0,11,Heap.gen H 0 11,0⟩:Ref) (some (.fn (.func 109) [] [])) [x0,(.fn (.func 107) [] [])]) fun v3 H1 =>
 br (some v3) (
 Q (.v (.int .i64 8)) H1) (
 Q (.v (.int .i64 0)) H1))
theorem xg:kN=fun g x0 H Q=>wp env Try.f89 none 0 xL xX Q 500 [.code nI] (ofL g [(0,x0)]) H:=by kernel_rfl
theorem xw (x0:AV) (H:Heap) (Q:AV→Heap→Prop) (h : ∀g,kN g x0 H Q):GoL env Try.f89 0 [.code nI] [(0,x0)] H Q:=⟨fun g=>bg (by have h:=h g;rw [xg] at h;exact h)⟩
noncomputable def nM:Code:=(Try.f85.body).getD .skip
def xP:Nat→Option (List Nat):=fun i=>none
def yb:Nat→Bool:=fun i=>false
def nV (g:Nat→AV) (x0:AV) (H:Heap) (Q:AV→Heap→Prop):Prop :=
 doW (nRes H (⟨0,1,Heap.gen H 0 1,0⟩:Ref) (qBox env.P (⟨0,1,Heap.gen H 0 1,0⟩:Ref) 33 (some x0))) fun v1 H1 =>
 doQ (ab env.P 33 (some v1) 0) fun v2 =>
 doQ (an env.P (Heap.get H1) 5 (some v2)) fun v3 =>
 doQ (qBin env.P .gtr 5 (.tmp 4) (.const (.int .u8 15)) (some v3) (some (a8 15))) fun v4 =>
 br (some v4) (
 Q (.v (.int .i64 8)) H1) (
 Q (.v (.int .i64 0)) H1)
theorem xm:nV=fun g x0 H Q=>wp env Try.f85 none 0 xP yb Q 500 [.code nM] (ofL g [(0,x0)]) H:=by kernel_rfl
theorem xC (x0:AV) (H:Heap) (Q:AV→Heap→Prop) (h : ∀g,nV g x0 H Q):GoL env Try.f85 0 [.code nM] [(0,x0)] H Q:=⟨fun g=>bg (by have h:=h g;rw [xm] at h;exact h)⟩
noncomputable def qy:Code:=(Try.f84.body).getD .skip
def BM:Nat→Option (List Nat):=fun i=>none
def Ci:Nat→Bool:=fun i=>false
def qG (g:Nat→AV) (x0:AV) (H:Heap) (Q:AV→Heap→Prop):Prop :=
 br (some x0) (
 Q (.v (.int .i64 0)) H) (
 Q (.v (.int .i64 8)) H)
theorem AY:qG=fun g x0 H Q=>wp env Try.f84 none 0 BM Ci Q 500 [.code qy] (ofL g [(0,x0)]) H:=by kernel_rfl
theorem Bh (x0:AV) (H:Heap) (Q:AV→Heap→Prop) (h : ∀g,qG g x0 H Q):GoL env Try.f84 0 [.code qy] [(0,x0)] H Q:=⟨fun g=>bg (by have h:=h g;rw [AY] at h;exact h)⟩
noncomputable def lL:Code:=(Try.f107.body).getD .skip
def uV:Nat→Option (List Nat):=fun i=>none
def vc:Nat→Bool:=fun i=>false
def ji (g:Nat→AV) (x0:AV) (H:Heap) (Q:AV→Heap→Prop):Prop :=
 doQ (qBin env.P .neq 21 (.tmp 3) (.const (.int .i32 (-1))) (some x0) (some (.v (.int .i32 (-1))))) fun v1 =>
 gQ v1 true (qVal (some x0)) fun v2 =>
 gW v1 true H (ak env true (limf env) (limt env 0) H (⟨0,7,Heap.gen H 0 7,0⟩:Ref) (some (.fn (.func 108) [] [])) [v2]) fun v3 H1 =>
 gQ v1 true (qUn env.P .not (some v3)) fun v4 =>
 doQ (aY (some v1) (some v4) (some (.v (.bool false)))) fun v5 =>
 Q v5 H1
theorem uF:ji=fun g x0 H Q=>wp env Try.f107 none 0 uV vc Q 500 [.code lL] (ofL g [(0,x0)]) H:=by kernel_rfl
theorem uN (x0:AV) (H:Heap) (Q:AV→Heap→Prop) (h : ∀g,ji g x0 H Q):GoL env Try.f107 0 [.code lL] [(0,x0)] H Q:=⟨fun g=>bg (by have h:=h g;rw [uF] at h;exact h)⟩
noncomputable def fK:Code:=(Try.f108.body).getD .skip
def nB:Nat→Option (List Nat):=fun i=>none
def nF:Nat→Bool:=fun i=>false
def fL (g:Nat→AV) (x0:AV) (H:Heap) (Q:AV→Heap→Prop):Prop :=
 doQ (qBin env.P .leq 21 (.const (.int .i32 0)) (.tmp 4) (some (.v (.int .i32 0))) (some x0)) fun v1 =>
 gQ v1 true (qVal (some x0)) fun v2 =>
 gQ v1 true (qBin env.P .lss 21 (.tmp 7) (.const (.int .i32 55296)) (some v2) (some (.v (.int .i32 55296)))) fun v3 =>
 doQ (aY (some v1) (some v3) (some (.v (.bool false)))) fun v4 =>
 br (some v4) (
 Q (.v (.bool true)) H) (
 doQ (qBin env.P .lss 21 (.const (.int .i32 57343)) (.tmp 11) (some (.v (.int .i32 57343))) (some x0)) fun v5 =>
 gQ v5 true (qVal (some x0)) fun v6 =>
 gQ v5 true (qBin env.P .leq 21 (.tmp 14) (.const (.int .i32 1114111)) (some v6) (some (.v (.int .i32 1114111)))) fun v7 =>
 doQ (aY (some v5) (some v7) (some (.v (.bool false)))) fun v8 =>
 br (some v8) (
 Q (.v (.bool true)) H) (
 Q (.v (.bool false)) H))
theorem nr:fL=fun g x0 H Q=>wp env Try.f108 none 0 nB nF Q 500 [.code fK] (ofL g [(0,x0)]) H:=by kernel_rfl
theorem ny (x0:AV) (H:Heap) (Q:AV→Heap→Prop) (h : ∀g,fL g x0 H Q):GoL env Try.f108 0 [.code fK] [(0,x0)] H Q:=⟨fun g=>bg (by have h:=h g;rw [nr] at h;exact h)⟩
noncomputable def dv:Code:=(Try.f109.body).getD .skip
def iS:Nat→Option (List Nat):=fun i=>none
def iY:Nat→Bool:=fun i=>false
def dw (g:Nat→AV) (x0 x1:AV) (H:Heap) (Q:AV→Heap→Prop):Prop :=
 doW (ak env true (limf env) (limt env 0) H (⟨0,7,Heap.gen H 0 7,0⟩:Ref) (some (.fn (.func 112) [] [])) [x0,x1]) fun v1 H1 =>
 doQ (qBin env.P .geq 3 (.tmp 7) (.const (.int .i64 0)) (some v1) (some (.v (.int .i64 0)))) fun v2 =>
 Q v2 H1
theorem iO:dw=fun g x0 x1 H Q=>wp env Try.f109 none 0 iS iY Q 500 [.code dv] (ofL g [(0,x0),(1,x1)]) H:=by kernel_rfl
theorem iP (x0 x1:AV) (H:Heap) (Q:AV→Heap→Prop) (h : ∀g,dw g x0 x1 H Q):GoL env Try.f109 0 [.code dv] [(0,x0),(1,x1)] H Q:=⟨fun g=>bg (by have h:=h g;rw [iO] at h;exact h)⟩
noncomputable def cR:Code:=(Try.f112.body).getD .skip
noncomputable def bR:List Item:=(bP 2 400 [.code cR]).getD []
def fD:Nat→Option (List Nat):=fun i=>cond (Nat.beq i 2) (some [8,0,1,7]) (none)
def fH:Nat→Bool:=fun i=>false
def dQ (g:Nat→AV) (x0 x1:AV) (H:Heap) (Q:AV→Heap→Prop):Prop :=
 doQ (ay env.P false (Heap.get H) (⟨0,7,Heap.gen H 0 7,0⟩:Ref) .len #[40] [x0]) fun v1 =>
  GoL env Try.f112 0 bR [(8,(.v (.int .i64 0))),(0,x0),(1,x1),(7,v1)] H Q
theorem jC:dQ=fun g x0 x1 H Q=>wp env Try.f112 none 0 fD fH Q 500 [.code cR] (ofL g [(0,x0),(1,x1)]) H:=by kernel_rfl
theorem jF (x0 x1:AV) (H:Heap) (Q:AV→Heap→Prop) (h : ∀g,dQ g x0 x1 H Q):GoL env Try.f112 0 [.code cR] [(0,x0),(1,x1)] H Q:=⟨fun g=>bg (by have h:=h g;rw [jC] at h;exact h)⟩
def bS (g:Nat→AV) (x8 x0 x1 x7:AV) (H:Heap) (Q:AV→Heap→Prop):Prop :=
 doQ (qBin env.P .lss 3 (.tmp 8) (.tmp 7) (some x8) (some x7)) fun v1 =>
 br (some v1) (
 doQ (au env.P (Heap.get H) 40 (some x0) (some x8)) fun v2 =>
 doQ (an env.P (Heap.get H) 21 (some v2)) fun v3 =>
 doW (ak env true (limf env) (limt env 0) H (⟨0,16,Heap.gen H 0 16,0⟩:Ref) (some x1) [v3]) fun v4 H1 =>
 br (some v4) (
 Q x8 H1) (
 doQ (qBin env.P .add 3 (.tmp 8) (.const (.int .i64 1)) (some x8) (some (.v (.int .i64 1)))) fun v5 =>
  GoL env Try.f112 0 bR [(8,v5),(0,x0),(1,x1),(7,x7)] H1 Q)) (
 Q (.v (.int .i64 (-1))) H)
theorem jm:bS=fun g x8 x0 x1 x7 H Q=>wp env Try.f112 none 0 fD fH Q 500 (fk bR) (ofL g [(8,x8),(0,x0),(1,x1),(7,x7)]) H:=by kernel_rfl
theorem fb (x8 x0 x1 x7:AV) (H:Heap) (Q:AV→Heap→Prop) (h : ∀g,bS g x8 x0 x1 x7 H Q):GoL env Try.f112 0 bR [(8,x8),(0,x0),(1,x1),(7,x7)] H Q:=cQ fun g=>bg (by have h:=h g;rw [jm] at h;exact h)
noncomputable def j1:Code:=(Try.f72.body).getD .skip
noncomputable def jS:List Item:=(bP 2 400 [.code j1]).getD []
def sQ:Nat→Option (List Nat):=fun i=>cond (Nat.beq i 2) (some [5,0,4]) (none)
def s8:Nat→Bool:=fun i=>false
def ml (g:Nat→AV) (x0 x1:AV) (H:Heap) (Q:AV→Heap→Prop):Prop :=
 doQ (qBin env.P .sub 3 (.tmp 6) (.const (.int .i64 1)) (some x1) (some (.v (.int .i64 1)))) fun v1 =>
  GoL env Try.f72 0 jS [(5,v1),(0,x0),(4,(.v (.slice none 0 0)))] H Q
theorem zl:ml=fun g x0 x1 H Q=>wp env Try.f72 none 0 sQ s8 Q 500 [.code j1] (ofL g [(0,x0),(1,x1)]) H:=by kernel_rfl
theorem so (x0 x1:AV) (H:Heap) (Q:AV→Heap→Prop) (h : ∀g,ml g x0 x1 H Q):GoL env Try.f72 0 [.code j1] [(0,x0),(1,x1)] H Q:=⟨fun g=>bg (by have h:=h g;rw [zl] at h;exact h)⟩
def bT (g:Nat→AV) (x5 x0 x4:AV) (H:Heap) (Q:AV→Heap→Prop):Prop :=
 doQ (qBin env.P .geq 3 (.tmp 8) (.const (.int .i64 0)) (some x5) (some (.v (.int .i64 0)))) fun v1 =>
 br (some v1) (
 doQ (qBin env.P .mul 3 (.const (.int .i64 8)) (.tmp 14) (some (.v (.int .i64 8))) (some x5)) fun v2 =>
 doQ (qBin env.P .shr 3 (.tmp 13) (.tmp 15) (some x0) (some v2)) fun v3 =>
 doQ (aJ env.P (Heap.get H) (⟨0,17,Heap.gen H 0 17,0⟩:Ref) 3 5 (some v3)) fun v4 =>
 doW (fX env.P false true H (⟨0,18,Heap.gen H 0 18,0⟩:Ref) 68 1 (some [(0,v4)])) fun v5 H1 =>
 doW (bQ env.P true H1 (⟨0,19,Heap.gen H1 0 19,0⟩:Ref) (some 68) (some 68) x4 v5) fun v6 H2 =>
 doQ (qBin env.P .sub 3 (.tmp 10) (.const (.int .i64 1)) (some x5) (some (.v (.int .i64 1)))) fun v7 =>
  GoL env Try.f72 0 jS [(5,v7),(0,x0),(4,v6)] H2 Q) (
 Q x4 H)
theorem vG:bT=fun g x5 x0 x4 H Q=>wp env Try.f72 none 0 sQ s8 Q 500 (fk jS) (ofL g [(5,x5),(0,x0),(4,x4)]) H:=by kernel_rfl
theorem cz (x5 x0 x4:AV) (H:Heap) (Q:AV→Heap→Prop) (h : ∀g,bT g x5 x0 x4 H Q):GoL env Try.f72 0 jS [(5,x5),(0,x0),(4,x4)] H Q:=cQ fun g=>bg (by have h:=h g;rw [vG] at h;exact h)
noncomputable def pv:Code:=(Try.f110.body).getD .skip
noncomputable def jR:List Item:=(bP 2 400 [.code pv]).getD []
def wA:Nat→Option (List Nat):=fun i=>cond (Nat.beq i 2) (some [7,2,5,6]) (none)
def wP:Nat→Bool:=fun i=>false
def sa (g:Nat→AV) (x0:AV) (H:Heap) (Q:AV→Heap→Prop):Prop :=
 doQ (ay env.P false (Heap.get H) (⟨0,6,Heap.gen H 0 6,0⟩:Ref) .len #[68] [x0]) fun v1 =>
  GoL env Try.f110 0 jR [(7,(.v (.int .i64 0))),(2,(.v (.int .i64 0))),(5,x0),(6,v1)] H Q
theorem CL:sa=fun g x0 H Q=>wp env Try.f110 none 0 wA wP Q 500 [.code pv] (ofL g [(0,x0)]) H:=by kernel_rfl
theorem CT (x0:AV) (H:Heap) (Q:AV→Heap→Prop) (h : ∀g,sa g x0 H Q):GoL env Try.f110 0 [.code pv] [(0,x0)] H Q:=⟨fun g=>bg (by have h:=h g;rw [CL] at h;exact h)⟩
def mj (g:Nat→AV) (x7 x2 x5 x6:AV) (H:Heap) (Q:AV→Heap→Prop):Prop :=
 doQ (qBin env.P .lss 3 (.tmp 7) (.tmp 6) (some x7) (some x6)) fun v1 =>
 br (some v1) (
 doQ (au env.P (Heap.get H) 68 (some x5) (some x7)) fun v2 =>
 doQ (an env.P (Heap.get H) 5 (some v2)) fun v3 =>
 doQ (qBin env.P .shl 3 (.tmp 11) (.const (.int .u64 8)) (some x2) (some (.v (.int .u64 8)))) fun v4 =>
 doQ (aJ env.P (Heap.get H) (⟨0,14,Heap.gen H 0 14,0⟩:Ref) 5 3 (some v3)) fun v5 =>
 doQ (qBin env.P .or 3 (.tmp 12) (.tmp 14) (some v4) (some v5)) fun v6 =>
 doQ (qBin env.P .add 3 (.tmp 7) (.const (.int .i64 1)) (some x7) (some (.v (.int .i64 1)))) fun v7 =>
  GoL env Try.f110 0 jR [(7,v7),(2,v6),(5,x5),(6,x6)] H Q) (
 Q x2 H)
theorem zk:mj=fun g x7 x2 x5 x6 H Q=>wp env Try.f110 none 0 wA wP Q 500 (fk jR) (ofL g [(7,x7),(2,x2),(5,x5),(6,x6)]) H:=by kernel_rfl
theorem sn (x7 x2 x5 x6:AV) (H:Heap) (Q:AV→Heap→Prop) (h : ∀g,mj g x7 x2 x5 x6 H Q):GoL env Try.f110 0 jR [(7,x7),(2,x2),(5,x5),(6,x6)] H Q:=cQ fun g=>bg (by have h:=h g;rw [zk] at h;exact h)
noncomputable def nj:Code:=(Try.f94.body).getD .skip
def BN:Nat→Option (List Nat):=fun i=>none
def Cj:Nat→Bool:=fun i=>false
def nn (g:Nat→AV) (x0:AV) (H:Heap) (Q:AV→Heap→Prop):Prop :=
 doW (nRes H (⟨0,2,Heap.gen H 0 2,0⟩:Ref) (bO env.P (⟨0,2,Heap.gen H 0 2,0⟩:Ref) 162)) fun v1 H1 =>
 doQ (au env.P (Heap.get H1) 68 (some x0) (some (.v (.int .i64 0)))) fun v2 =>
 doQ (an env.P (Heap.get H1) 5 (some v2)) fun v3 =>
 doQ (bK env.P (Heap.get H1) 68 (some x0) (oi (.v (.int .i64 1))) (oi (.v (.int .i64 5))) (some none)) fun v4 =>
 doW (ak env false (limf env) (limt env 0) H1 (⟨0,9,Heap.gen H1 0 9,0⟩:Ref) (some (.fn (.func 110) [] [])) [v4]) fun v5 H2 =>
 doQ (aJ env.P (Heap.get H2) (⟨0,10,Heap.gen H2 0 10,0⟩:Ref) 3 31 (some v5)) fun v6 =>
 doQ (bu env.P 33 (some [(0,v3),(1,v6)])) fun v7 =>
 doQ (au env.P (Heap.get H2) 68 (some x0) (some (.v (.int .i64 5)))) fun v8 =>
 doQ (an env.P (Heap.get H2) 5 (some v8)) fun v9 =>
 doQ (bu env.P 35 (some [(0,v7),(1,v9)])) fun v10 =>
 doQ (bu env.P 162 (some [(0,v10)])) fun v11 =>
 doW (nRes H2 (⟨0,3,Heap.gen H2 0 3,0⟩:Ref) (bO env.P (⟨0,3,Heap.gen H2 0 3,0⟩:Ref) 162)) fun v12 H3 =>
 doW (aw env.P H3 162 (some v12) (some v11)) fun v13 H4 =>
 doQ (ab env.P 162 (some v12) 0) fun v14 =>
 doQ (an env.P (Heap.get H4) 35 (some v14)) fun v15 =>
 doW (ak env true (limf env) (limt env 0) H4 (⟨0,19,Heap.gen H4 0 19,0⟩:Ref) (some (.fn (.func 71) [] [])) [v15]) fun v16 H5 =>
 doQ (ab env.P 162 (some v12) 1) fun v17 =>
 doW (aw env.P H5 25 (some v17) (some v16)) fun v18 H6 =>
 doQ (an env.P (Heap.get H6) 162 (some v12)) fun v19 =>
 doW (aw env.P H6 162 (some v1) (some v19)) fun v20 H7 =>
 doQ (aE env.P H7 v1 162) fun v21 =>
 Q v21 H7
theorem AZ:nn=fun g x0 H Q=>wp env Try.f94 none 0 BN Cj Q 500 [.code nj] (ofL g [(0,x0)]) H:=by kernel_rfl
theorem tV (x0:AV) (H:Heap) (Q:AV→Heap→Prop) (h : ∀g,nn g x0 H Q):GoL env Try.f94 0 [.code nj] [(0,x0)] H Q:=⟨fun g=>bg (by have h:=h g;rw [AZ] at h;exact h)⟩
noncomputable def lN:Code:=(Try.f81.body).getD .skip
def uX:Nat→Option (List Nat):=fun i=>none
def ve:Nat→Bool:=fun i=>false
def lP (g:Nat→AV) (x0:AV) (H:Heap) (Q:AV→Heap→Prop):Prop :=
 doW (nRes H (⟨0,2,Heap.gen H 0 2,0⟩:Ref) (bO env.P (⟨0,2,Heap.gen H 0 2,0⟩:Ref) 35)) fun v1 H1 =>
 doQ (ay env.P false (Heap.get H1) (⟨0,6,Heap.gen H1 0 6,0⟩:Ref) .len #[68] [x0]) fun v2 =>
 doQ (qBin env.P .neq 3 (.tmp 6) (.const (.int .i64 6)) (some v2) (some (.v (.int .i64 6)))) fun v3 =>
 br (some v3) (
 doQ (bu env.P 35 (some [])) fun v4 =>
 doW (aw env.P H1 35 (some v1) (some v4)) fun v5 H2 =>
 doQ (aE env.P H2 v1 35) fun v6 =>
 Q (.tup [v6,(.v (.int .i64 8))]) H2) (
 doW (ak env true (limf env) (limt env 0) H1 (⟨0,10,Heap.gen H1 0 10,0⟩:Ref) (some (.fn (.func 94) [] [])) [x0]) fun v4 H2 =>
 doW (nRes H2 (⟨0,4,Heap.gen H2 0 4,0⟩:Ref) (bO env.P (⟨0,4,Heap.gen H2 0 4,0⟩:Ref) 162)) fun v5 H3 =>
 doW (aw env.P H3 162 (some v5) (some v4)) fun v6 H4 =>
 doQ (ab env.P 162 (some v5) 1) fun v7 =>
 doQ (an env.P (Heap.get H4) 25 (some v7)) fun v8 =>
 doQ (qBin env.P .neq 25 (.tmp 12) (.const (.int .i64 0)) (some v8) (some (.v (.int .i64 0)))) fun v9 =>
 br (some v9) (
 doQ (bu env.P 35 (some [])) fun v10 =>
 doQ (ab env.P 162 (some v5) 1) fun v11 =>
 doQ (an env.P (Heap.get H4) 25 (some v11)) fun v12 =>
 doW (aw env.P H4 35 (some v1) (some v10)) fun v13 H5 =>
  oJ [(v11,v1)] [v1] [] H5 ∧
 (doQ (aE env.P H5 v1 35) fun v14 =>
 Q (.tup [v14,v12]) H5)) (
 doQ (ab env.P 162 (some v5) 0) fun v10 =>
 doQ (an env.P (Heap.get H4) 35 (some v10)) fun v11 =>
 doW (aw env.P H4 35 (some v1) (some v11)) fun v12 H5 =>
 doQ (aE env.P H5 v1 35) fun v13 =>
 Q (.tup [v13,(.v (.int .i64 0))]) H5))
theorem uK:lP=fun g x0 H Q=>wp env Try.f81 none 0 uX ve Q 500 [.code lN] (ofL g [(0,x0)]) H:=by kernel_rfl
theorem uP (x0:AV) (H:Heap) (Q:AV→Heap→Prop) (h : ∀g,lP g x0 H Q):GoL env Try.f81 0 [.code lN] [(0,x0)] H Q:=⟨fun g=>bg (by have h:=h g;rw [uK] at h;exact h)⟩
noncomputable def tM:Code:=(Try.f111.body).getD .skip
def F0:Nat→Option (List Nat):=fun i=>none
def Gi:Nat→Bool:=fun i=>false
def tT (g:Nat→AV) (x0:AV) (H:Heap) (Q:AV→Heap→Prop):Prop :=
 doW (nRes H (⟨0,2,Heap.gen H 0 2,0⟩:Ref) (bO env.P (⟨0,2,Heap.gen H 0 2,0⟩:Ref) 37)) fun v1 H1 =>
 doQ (ay env.P false (Heap.get H1) (⟨0,7,Heap.gen H1 0 7,0⟩:Ref) .len #[68] [x0]) fun v2 =>
 doQ (qBin env.P .neq 3 (.tmp 7) (.const (.int .i64 13)) (some v2) (some (.v (.int .i64 13)))) fun v3 =>
 br (some v3) (
 doQ (bu env.P 37 (some [])) fun v4 =>
 doW (aw env.P H1 37 (some v1) (some v4)) fun v5 H2 =>
 doQ (aE env.P H2 v1 37) fun v6 =>
 Q (.tup [v6,(.v (.int .i64 8))]) H2) (
 doW (ak env false (limf env) (limt env 0) H1 (⟨0,11,Heap.gen H1 0 11,0⟩:Ref) (some (.fn (.func 94) [] [])) [x0]) fun v4 H2 =>
 doQ (rj env.P 162 (some v4) 0) fun v5 =>
 doQ (bK env.P (Heap.get H2) 68 (some x0) (oi (.v (.int .i64 6))) (some none) (some none)) fun v6 =>
 doW (ak env false (limf env) (limt env 0) H2 (⟨0,15,Heap.gen H2 0 15,0⟩:Ref) (some (.fn (.func 110) [] [])) [v6]) fun v7 H3 =>
 doQ (bu env.P 37 (some [(0,v5),(1,v7)])) fun v8 =>
 doW (nRes H3 (⟨0,4,Heap.gen H3 0 4,0⟩:Ref) (bO env.P (⟨0,4,Heap.gen H3 0 4,0⟩:Ref) 37)) fun v9 H4 =>
 doW (aw env.P H4 37 (some v9) (some v8)) fun v10 H5 =>
 doQ (an env.P (Heap.get H5) 37 (some v9)) fun v11 =>
 doW (ak env true (limf env) (limt env 0) H5 (⟨0,18,Heap.gen H5 0 18,0⟩:Ref) (some (.fn (.func 88) [] [])) [v11]) fun v12 H6 =>
 doQ (qBin env.P .neq 25 (.tmp 19) (.const (.int .i64 0)) (some v12) (some (.v (.int .i64 0)))) fun v13 =>
 br (some v13) (
 doQ (bu env.P 37 (some [])) fun v14 =>
 doW (aw env.P H6 37 (some v1) (some v14)) fun v15 H7 =>
 doQ (aE env.P H7 v1 37) fun v16 =>
 Q (.tup [v16,v12]) H7) (
 doQ (an env.P (Heap.get H6) 37 (some v9)) fun v14 =>
 doW (aw env.P H6 37 (some v1) (some v14)) fun v15 H7 =>
 doQ (aE env.P H7 v1 37) fun v16 =>
 Q (.tup [v16,(.v (.int .i64 0))]) H7))
theorem Fs:tT=fun g x0 H Q=>wp env Try.f111 none 0 F0 Gi Q 500 [.code tM] (ofL g [(0,x0)]) H:=by kernel_rfl
theorem Fv (x0:AV) (H:Heap) (Q:AV→Heap→Prop) (h : ∀g,tT g x0 H Q):GoL env Try.f111 0 [.code tM] [(0,x0)] H Q:=⟨fun g=>bg (by have h:=h g;rw [Fs] at h;exact h)⟩
noncomputable def lM:Code:=(Try.f53.body).getD .skip
def uW:Nat→Option (List Nat):=fun i=>none
def vd:Nat→Bool:=fun i=>false
def jl (g:Nat→AV) (x0:AV) (H:Heap) (Q:AV→Heap→Prop):Prop :=
 doW (nRes H (⟨0,1,Heap.gen H 0 1,0⟩:Ref) (qBox env.P (⟨0,1,Heap.gen H 0 1,0⟩:Ref) 35 (some x0))) fun v1 H1 =>
 doQ (an env.P (Heap.get H1) 35 (some v1)) fun v2 =>
 doW (ak env true (limf env) (limt env 0) H1 (⟨0,6,Heap.gen H1 0 6,0⟩:Ref) (some (.fn (.func 71) [] [])) [v2]) fun v3 H2 =>
 doQ (qBin env.P .neq 25 (.tmp 7) (.const (.int .i64 0)) (some v3) (some (.v (.int .i64 0)))) fun v4 =>
 br (some v4) (
 Q (.tup [(.v (.slice none 0 0)),v3]) H2) (
 doQ (ab env.P 35 (some v1) 0) fun v5 =>
 doQ (ab env.P 33 (some v5) 0) fun v6 =>
 doQ (an env.P (Heap.get H2) 5 (some v6)) fun v7 =>
 doW (fX env.P true false H2 (⟨0,13,Heap.gen H2 0 13,0⟩:Ref) 68 1 (some [(0,v7)])) fun v8 H3 =>
 doQ (ab env.P 35 (some v1) 0) fun v9 =>
 doQ (ab env.P 33 (some v9) 1) fun v10 =>
 doQ (an env.P (Heap.get H3) 31 (some v10)) fun v11 =>
 doQ (aJ env.P (Heap.get H3) (⟨0,17,Heap.gen H3 0 17,0⟩:Ref) 31 3 (some v11)) fun v12 =>
 doW (ak env false (limf env) (limt env 0) H3 (⟨0,18,Heap.gen H3 0 18,0⟩:Ref) (some (.fn (.func 72) [] [])) [v12,(.v (.int .i64 4))]) fun v13 H4 =>
 doW (bQ env.P false H4 (⟨0,19,Heap.gen H4 0 19,0⟩:Ref) (some 68) (some 68) v8 v13) fun v14 H5 =>
 doQ (ab env.P 35 (some v1) 1) fun v15 =>
 doQ (an env.P (Heap.get H5) 5 (some v15)) fun v16 =>
 doW (fX env.P true false H5 (⟨0,22,Heap.gen H5 0 22,0⟩:Ref) 68 1 (some [(0,v16)])) fun v17 H6 =>
 doW (bQ env.P true H6 (⟨0,23,Heap.gen H6 0 23,0⟩:Ref) (some 68) (some 68) v14 v17) fun v18 H7 =>
 Q (.tup [v18,(.v (.int .i64 0))]) H7)
theorem uJ:jl=fun g x0 H Q=>wp env Try.f53 none 0 uW vd Q 500 [.code lM] (ofL g [(0,x0)]) H:=by kernel_rfl
theorem uO (x0:AV) (H:Heap) (Q:AV→Heap→Prop) (h : ∀g,jl g x0 H Q):GoL env Try.f53 0 [.code lM] [(0,x0)] H Q:=⟨fun g=>bg (by have h:=h g;rw [uJ] at h;exact h)⟩
noncomputable def tL:Code:=(Try.f74.body).getD .skip
def FZ:Nat→Option (List Nat):=fun i=>none
def Gh:Nat→Bool:=fun i=>false
def qZ (g:Nat→AV) (x0:AV) (H:Heap) (Q:AV→Heap→Prop):Prop :=
 doW (nRes H (⟨0,1,Heap.gen H 0 1,0⟩:Ref) (qBox env.P (⟨0,1,Heap.gen H 0 1,0⟩:Ref) 37 (some x0))) fun v1 H1 =>
 doQ (an env.P (Heap.get H1) 37 (some v1)) fun v2 =>
 doW (ak env true (limf env) (limt env 0) H1 (⟨0,8,Heap.gen H1 0 8,0⟩:Ref) (some (.fn (.func 88) [] [])) [v2]) fun v3 H2 =>
 doQ (qBin env.P .neq 25 (.tmp 9) (.const (.int .i64 0)) (some v3) (some (.v (.int .i64 0)))) fun v4 =>
 br (some v4) (
 Q (.tup [(.v (.slice none 0 0)),v3]) H2) (
 doQ (ab env.P 37 (some v1) 0) fun v5 =>
 doQ (an env.P (Heap.get H2) 35 (some v5)) fun v6 =>
 doW (ak env true (limf env) (limt env 0) H2 (⟨0,15,Heap.gen H2 0 15,0⟩:Ref) (some (.fn (.func 53) [] [])) [v6]) fun v7 H3 =>
 doQ (ao (some v7) 0) fun v8 =>
 doQ (ao (some v7) 1) fun v9 =>
 doQ (ab env.P 37 (some v1) 1) fun v10 =>
 doQ (an env.P (Heap.get H3) 3 (some v10)) fun v11 =>
 doW (ak env true (limf env) (limt env 0) H3 (⟨0,21,Heap.gen H3 0 21,0⟩:Ref) (some (.fn (.func 72) [] [])) [v11,(.v (.int .i64 7))]) fun v12 H4 =>
 doW (bQ env.P true H4 (⟨0,22,Heap.gen H4 0 22,0⟩:Ref) (some 68) (some 68) v8 v12) fun v13 H5 =>
 Q (.tup [v13,v9]) H5)
theorem Fq:qZ=fun g x0 H Q=>wp env Try.f74 none 0 FZ Gh Q 500 [.code tL] (ofL g [(0,x0)]) H:=by kernel_rfl
theorem Fu (x0:AV) (H:Heap) (Q:AV→Heap→Prop) (h : ∀g,qZ g x0 H Q):GoL env Try.f74 0 [.code tL] [(0,x0)] H Q:=⟨fun g=>bg (by have h:=h g;rw [Fq] at h;exact h)⟩
noncomputable def px:Code:=(Try.f9.body).getD .skip
def Am:Nat→Option (List Nat):=fun i=>none
def AE:Nat→Bool:=fun i=>false
def iH (g:Nat→AV) (x0 x1:AV) (H:Heap) (Q:AV→Heap→Prop):Prop :=
 doW (nRes H (⟨0,2,Heap.gen H 0 2,0⟩:Ref) (qBox env.P (⟨0,2,Heap.gen H 0 2,0⟩:Ref) 24 (some x0))) fun v1 H1 =>
 doW (nRes H1 (⟨0,4,Heap.gen H1 0 4,0⟩:Ref) (bO env.P (⟨0,4,Heap.gen H1 0 4,0⟩:Ref) 24)) fun v2 H2 =>
 doQ (an env.P (Heap.get H2) 24 (some v1)) fun v3 =>
 doW (ak env true (limf env) (limt env 0) H2 (⟨0,8,Heap.gen H2 0 8,0⟩:Ref) (some (.fn (.func 29) [] [])) [v3]) fun v4 H3 =>
 doQ (qBin env.P .neq 25 (.tmp 9) (.const (.int .i64 0)) (some v4) (some (.v (.int .i64 0)))) fun v5 =>
 br (some v5) (
 doQ (bu env.P 24 (some [])) fun v6 =>
 doW (aw env.P H3 24 (some v2) (some v6)) fun v7 H4 =>
 doQ (aE env.P H4 v2 24) fun v8 =>
 Q (.tup [v8,v4]) H4) (
 doQ (qBin env.P .lss 3 (.tmp 14) (.const (.int .i64 (-1))) (some x1) (some (.v (.int .i64 (-1))))) fun v6 =>
 gQ v6 false (qVal (some x1)) fun v7 =>
 gQ v6 false (qBin env.P .geq 3 (.tmp 17) (.const (.int .i64 2147483648)) (some v7) (some (.v (.int .i64 2147483648)))) fun v8 =>
 doQ (aY (some v6) (some (.v (.bool true))) (some v8)) fun v9 =>
 br (some v9) (
 doQ (bu env.P 24 (some [])) fun v10 =>
 doW (aw env.P H3 24 (some v2) (some v10)) fun v11 H4 =>
 doQ (aE env.P H4 v2 24) fun v12 =>
 Q (.tup [v12,(.v (.int .i64 2))]) H4) (
 doQ (ab env.P 24 (some v1) 1) fun v10 =>
 doQ (an env.P (Heap.get H3) 3 (some v10)) fun v11 =>
 doQ (qBin env.P .add 3 (.tmp 23) (.const (.int .i64 1)) (some v11) (some (.v (.int .i64 1)))) fun v12 =>
 doQ (qBin env.P .geq 3 (.tmp 24) (.const (.int .i64 2147483648)) (some v12) (some (.v (.int .i64 2147483648)))) fun v13 =>
 br (some v13) (
 doQ (bu env.P 24 (some [])) fun v14 =>
 doW (aw env.P H3 24 (some v2) (some v14)) fun v15 H4 =>
 doQ (aE env.P H4 v2 24) fun v16 =>
 Q (.tup [v16,(.v (.int .i64 9))]) H4) (
 doQ (an env.P (Heap.get H3) 24 (some v1)) fun v14 =>
 doW (ak env true (limf env) (limt env 0) H3 (⟨0,28,Heap.gen H3 0 28,0⟩:Ref) (some (.fn (.func 30) [] [])) [v14]) fun v15 H4 =>
 doW (aw env.P H4 24 (some v1) (some v15)) fun v16 H5 =>
 doQ (ab env.P 24 (some v1) 1) fun v17 =>
 doQ (an env.P (Heap.get H5) 3 (some v17)) fun v18 =>
 doQ (qBin env.P .add 3 (.tmp 30) (.const (.int .i64 1)) (some v18) (some (.v (.int .i64 1)))) fun v19 =>
 doQ (ab env.P 24 (some v1) 1) fun v20 =>
 doW (aw env.P H5 3 (some v20) (some v19)) fun v21 H6 =>
 doQ (ab env.P 24 (some v1) 2) fun v22 =>
 doW (aw env.P H6 3 (some v22) (some x1)) fun v23 H7 =>
 doQ (ab env.P 24 (some v1) 3) fun v24 =>
 doW (aw env.P H7 4 (some v24) (some (.v (.bool false)))) fun v25 H8 =>
 doQ (an env.P (Heap.get H8) 24 (some v1)) fun v26 =>
 doW (aw env.P H8 24 (some v2) (some v26)) fun v27 H9 =>
 doQ (aE env.P H9 v2 24) fun v28 =>
 Q (.tup [v28,(.v (.int .i64 0))]) H9)))
theorem zo:iH=fun g x0 x1 H Q=>wp env Try.f9 none 0 Am AE Q 500 [.code px] (ofL g [(0,x0),(1,x1)]) H:=by kernel_rfl
theorem zI (x0 x1:AV) (H:Heap) (Q:AV→Heap→Prop) (h : ∀g,iH g x0 x1 H Q):GoL env Try.f9 0 [.code px] [(0,x0),(1,x1)] H Q:=⟨fun g=>bg (by have h:=h g;rw [zo] at h;exact h)⟩
noncomputable def rX:Code:=(Try.f10.body).getD .skip
def Dz:Nat→Option (List Nat):=fun i=>none
def D3:Nat→Bool:=fun i=>false
def sc (g:Nat→AV) (H:Heap) (Q:AV→Heap→Prop):Prop :=
 doW (nRes H (⟨0,0,Heap.gen H 0 0,0⟩:Ref) (bO env.P (⟨0,0,Heap.gen H 0 0,0⟩:Ref) 24)) fun v1 H1 =>
 doQ (bu env.P 24 (some [(2,(.v (.int .i64 (-1))))])) fun v2 =>
 doW (aw env.P H1 24 (some v1) (some v2)) fun v3 H2 =>
 doQ (aE env.P H2 v1 24) fun v4 =>
 Q v4 H2
theorem CN:sc=fun g  H Q=>wp env Try.f10 none 0 Dz D3 Q 500 [.code rX] (ofL g []) H:=by kernel_rfl
theorem CV (H:Heap) (Q:AV→Heap→Prop) (h : ∀g,sc g  H Q):GoL env Try.f10 0 [.code rX] [] H Q:=⟨fun g=>bg (by have h:=h g;rw [CN] at h;exact h)⟩
noncomputable def mf:Code:=(Try.f27.body).getD .skip
def Al:Nat→Option (List Nat):=fun i=>none
def AD:Nat→Bool:=fun i=>false
def dB (g:Nat→AV) (x0 x1 x2:AV) (H:Heap) (Q:AV→Heap→Prop):Prop :=
 doW (nRes H (⟨0,3,Heap.gen H 0 3,0⟩:Ref) (qBox env.P (⟨0,3,Heap.gen H 0 3,0⟩:Ref) 24 (some x0))) fun v1 H1 =>
 doW (nRes H1 (⟨0,6,Heap.gen H1 0 6,0⟩:Ref) (bO env.P (⟨0,6,Heap.gen H1 0 6,0⟩:Ref) 24)) fun v2 H2 =>
 doQ (an env.P (Heap.get H2) 24 (some v1)) fun v3 =>
 doW (ak env true (limf env) (limt env 0) H2 (⟨0,13,Heap.gen H2 0 13,0⟩:Ref) (some (.fn (.func 40) [] [])) [v3,x1]) fun v4 H3 =>
 doQ (qBin env.P .neq 25 (.tmp 14) (.const (.int .i64 0)) (some v4) (some (.v (.int .i64 0)))) fun v5 =>
 br (some v5) (
 doQ (bu env.P 24 (some [])) fun v6 =>
 doW (aw env.P H3 24 (some v2) (some v6)) fun v7 H4 =>
 doQ (aE env.P H4 v2 24) fun v8 =>
 Q (.tup [v8,v4]) H4) (
 doQ (ay env.P false (Heap.get H3) (⟨0,19,Heap.gen H3 0 19,0⟩:Ref) .len #[68] [x2]) fun v6 =>
 doQ (qBin env.P .neq 3 (.tmp 19) (.const (.int .i64 128)) (some v6) (some (.v (.int .i64 128)))) fun v7 =>
 br (some v7) (
 doQ (bu env.P 24 (some [])) fun v8 =>
 doW (aw env.P H3 24 (some v2) (some v8)) fun v9 H4 =>
 doQ (aE env.P H4 v2 24) fun v10 =>
 Q (.tup [v10,(.v (.int .i64 2))]) H4) (
 doQ (an env.P (Heap.get H3) 24 (some v1)) fun v8 =>
 doW (ak env true (limf env) (limt env 0) H3 (⟨0,23,Heap.gen H3 0 23,0⟩:Ref) (some (.fn (.func 30) [] [])) [v8]) fun v9 H4 =>
 doW (aw env.P H4 24 (some v1) (some v9)) fun v10 H5 =>
 doQ (ab env.P 24 (some v1) 3) fun v11 =>
 doQ (an env.P (Heap.get H5) 4 (some v11)) fun v12 =>
 gQ v12 false (ab env.P 24 (some v1) 2) fun v13 =>
 gQ v12 false (an env.P (Heap.get H5) 3 (some v13)) fun v14 =>
 gQ v12 false (qBin env.P .eql 3 (.tmp 29) (.const (.int .i64 0)) (some v14) (some (.v (.int .i64 0)))) fun v15 =>
 doQ (aY (some v12) (some (.v (.bool true))) (some v15)) fun v16 =>
 br (some v16) (
 doQ (ab env.P 24 (some v1) 3) fun v17 =>
 doW (aw env.P H5 4 (some v17) (some (.v (.bool true)))) fun v18 H6 =>
 doQ (an env.P (Heap.get H6) 24 (some v1)) fun v19 =>
 doW (aw env.P H6 24 (some v2) (some v19)) fun v20 H7 =>
 doQ (aE env.P H7 v2 24) fun v21 =>
 Q (.tup [v21,(.v (.int .i64 0))]) H7) (
 doQ (ab env.P 24 (some v1) 2) fun v17 =>
 doQ (an env.P (Heap.get H5) 3 (some v17)) fun v18 =>
 doQ (qBin env.P .gtr 3 (.tmp 36) (.const (.int .i64 0)) (some v18) (some (.v (.int .i64 0)))) fun v19 =>
 br (some v19) (
 doQ (ab env.P 24 (some v1) 2) fun v20 =>
 doQ (an env.P (Heap.get H5) 3 (some v20)) fun v21 =>
 doQ (qBin env.P .sub 3 (.tmp 39) (.const (.int .i64 1)) (some v21) (some (.v (.int .i64 1)))) fun v22 =>
 doQ (ab env.P 24 (some v1) 2) fun v23 =>
 doW (aw env.P H5 3 (some v23) (some v22)) fun v24 H6 =>
 doQ (an env.P (Heap.get H6) 24 (some v1)) fun v25 =>
 doW (ak env true (limf env) (limt env 0) H6 (⟨0,45,Heap.gen H6 0 45,0⟩:Ref) (some (.fn (.func 41) [] [])) [v25,x1]) fun v26 H7 =>
 doQ (ao (some v26) 0) fun v27 =>
 doQ (ao (some v26) 1) fun v28 =>
 doQ (qUn env.P .not (some v28)) fun v29 =>
 br (some v29) (
 doQ (ab env.P 24 (some v1) 0) fun v30 =>
 doQ (an env.P (Heap.get H7) 22 (some v30)) fun v31 =>
 doQ (bu env.P 94 (some [(0,x1)])) fun v32 =>
 doW (fX env.P false true H7 (⟨0,55,Heap.gen H7 0 55,0⟩:Ref) 22 1 (some [(0,v32)])) fun v33 H8 =>
 doW (ak env true (limf env) (limt env 0) H8 (⟨0,56,Heap.gen H8 0 56,0⟩:Ref) (some (.fn (.func 42) [] [])) [v31,v27,v33]) fun v34 H9 =>
 doQ (ab env.P 24 (some v1) 0) fun v35 =>
 doW (aw env.P H9 22 (some v35) (some v34)) fun v36 H10 =>
 doQ (ab env.P 24 (some v1) 0) fun v37 =>
 doQ (an env.P (Heap.get H10) 22 (some v37)) fun v38 =>
 doW (ak env false (limf env) (limt env 0) H10 (⟨0,62,Heap.gen H10 0 62,0⟩:Ref) (some (.fn (.func 43) [] [])) [x2]) fun v39 H11 =>
 doQ (au env.P (Heap.get H11) 22 (some v38) (some v27)) fun v40 =>
 doQ (ab env.P 94 (some v40) 1) fun v41 =>
 doW (aw env.P H11 68 (some v41) (some v39)) fun v42 H12 =>
 doQ (an env.P (Heap.get H12) 24 (some v1)) fun v43 =>
 doW (aw env.P H12 24 (some v2) (some v43)) fun v44 H13 =>
 doQ (aE env.P H13 v2 24) fun v45 =>
 Q (.tup [v45,(.v (.int .i64 0))]) H13) (
 doQ (ab env.P 24 (some v1) 0) fun v30 =>
 doQ (an env.P (Heap.get H7) 22 (some v30)) fun v31 =>
 doW (ak env false (limf env) (limt env 0) H7 (⟨0,62,Heap.gen H7 0 62,0⟩:Ref) (some (.fn (.func 43) [] [])) [x2]) fun v32 H8 =>
 doQ (au env.P (Heap.get H8) 22 (some v31) (some v27)) fun v33 =>
 doQ (ab env.P 94 (some v33) 1) fun v34 =>
 doW (aw env.P H8 68 (some v34) (some v32)) fun v35 H9 =>
 doQ (an env.P (Heap.get H9) 24 (some v1)) fun v36 =>
 doW (aw env.P H9 24 (some v2) (some v36)) fun v37 H10 =>
 doQ (aE env.P H10 v2 24) fun v38 =>
 Q (.tup [v38,(.v (.int .i64 0))]) H10)) (
 doQ (an env.P (Heap.get H5) 24 (some v1)) fun v20 =>
 doW (ak env true (limf env) (limt env 0) H5 (⟨0,45,Heap.gen H5 0 45,0⟩:Ref) (some (.fn (.func 41) [] [])) [v20,x1]) fun v21 H6 =>
 doQ (ao (some v21) 0) fun v22 =>
 doQ (ao (some v21) 1) fun v23 =>
 doQ (qUn env.P .not (some v23)) fun v24 =>
 br (some v24) (
 doQ (ab env.P 24 (some v1) 0) fun v25 =>
 doQ (an env.P (Heap.get H6) 22 (some v25)) fun v26 =>
 doQ (bu env.P 94 (some [(0,x1)])) fun v27 =>
 doW (fX env.P false true H6 (⟨0,55,Heap.gen H6 0 55,0⟩:Ref) 22 1 (some [(0,v27)])) fun v28 H7 =>
 doW (ak env true (limf env) (limt env 0) H7 (⟨0,56,Heap.gen H7 0 56,0⟩:Ref) (some (.fn (.func 42) [] [])) [v26,v22,v28]) fun v29 H8 =>
 doQ (ab env.P 24 (some v1) 0) fun v30 =>
 doW (aw env.P H8 22 (some v30) (some v29)) fun v31 H9 =>
 doQ (ab env.P 24 (some v1) 0) fun v32 =>
 doQ (an env.P (Heap.get H9) 22 (some v32)) fun v33 =>
 doW (ak env false (limf env) (limt env 0) H9 (⟨0,62,Heap.gen H9 0 62,0⟩:Ref) (some (.fn (.func 43) [] [])) [x2]) fun v34 H10 =>
 doQ (au env.P (Heap.get H10) 22 (some v33) (some v22)) fun v35 =>
 doQ (ab env.P 94 (some v35) 1) fun v36 =>
 doW (aw env.P H10 68 (some v36) (some v34)) fun v37 H11 =>
 doQ (an env.P (Heap.get H11) 24 (some v1)) fun v38 =>
 doW (aw env.P H11 24 (some v2) (some v38)) fun v39 H12 =>
 doQ (aE env.P H12 v2 24) fun v40 =>
 Q (.tup [v40,(.v (.int .i64 0))]) H12) (
 doQ (ab env.P 24 (some v1) 0) fun v25 =>
 doQ (an env.P (Heap.get H6) 22 (some v25)) fun v26 =>
 doW (ak env false (limf env) (limt env 0) H6 (⟨0,62,Heap.gen H6 0 62,0⟩:Ref) (some (.fn (.func 43) [] [])) [x2]) fun v27 H7 =>
 doQ (au env.P (Heap.get H7) 22 (some v26) (some v22)) fun v28 =>
 doQ (ab env.P 94 (some v28) 1) fun v29 =>
 doW (aw env.P H7 68 (some v29) (some v27)) fun v30 H8 =>
 doQ (an env.P (Heap.get H8) 24 (some v1)) fun v31 =>
 doW (aw env.P H8 24 (some v2) (some v31)) fun v32 H9 =>
 doQ (aE env.P H9 v2 24) fun v33 =>
 Q (.tup [v33,(.v (.int .i64 0))]) H9)))))
theorem zn:dB=fun g x0 x1 x2 H Q=>wp env Try.f27 none 0 Al AD Q 500 [.code mf] (ofL g [(0,x0),(1,x1),(2,x2)]) H:=by kernel_rfl
theorem su (x0 x1 x2:AV) (H:Heap) (Q:AV→Heap→Prop) (h : ∀g,dB g x0 x1 x2 H Q):GoL env Try.f27 0 [.code mf] [(0,x0),(1,x1),(2,x2)] H Q:=⟨fun g=>bg (by have h:=h g;rw [zn] at h;exact h)⟩
noncomputable def mg:Code:=(Try.f29.body).getD .skip
noncomputable def iA:List Item:=(bP 3 400 [.code mg]).getD []
def sS:Nat→Option (List Nat):=fun i=>cond (Nat.beq i 3) (some [9,3,7,1,8]) (none)
def ta:Nat→Bool:=fun i=>false
def pE (g:Nat→AV) (x0:AV) (H:Heap) (Q:AV→Heap→Prop):Prop :=
 doW (nRes H (⟨0,1,Heap.gen H 0 1,0⟩:Ref) (qBox env.P (⟨0,1,Heap.gen H 0 1,0⟩:Ref) 24 (some x0))) fun v1 H1 =>
 doQ (ab env.P 24 (some v1) 0) fun v2 =>
 doQ (an env.P (Heap.get H1) 22 (some v2)) fun v3 =>
 doQ (ay env.P false (Heap.get H1) (⟨0,8,Heap.gen H1 0 8,0⟩:Ref) .len #[22] [v3]) fun v4 =>
  GoL env Try.f29 0 iA [(9,(.v (.int .i64 0))),(3,(.v (.int .i64 (-1)))),(7,v3),(1,v1),(8,v4)] H1 Q
theorem zp:pE=fun g x0 H Q=>wp env Try.f29 none 0 sS ta Q 500 [.code mg] (ofL g [(0,x0)]) H:=by kernel_rfl
theorem zJ (x0:AV) (H:Heap) (Q:AV→Heap→Prop) (h : ∀g,pE g x0 H Q):GoL env Try.f29 0 [.code mg] [(0,x0)] H Q:=⟨fun g=>bg (by have h:=h g;rw [zp] at h;exact h)⟩
def j9 (g:Nat→AV) (x9 x3 x7 x1 x8:AV) (H:Heap) (Q:AV→Heap→Prop):Prop :=
 doQ (qBin env.P .lss 3 (.tmp 9) (.tmp 8) (some x9) (some x8)) fun v1 =>
 br (some v1) (
 doQ (au env.P (Heap.get H) 22 (some x7) (some x9)) fun v2 =>
 doQ (an env.P (Heap.get H) 94 (some v2)) fun v3 =>
 doW (nRes H (⟨0,5,Heap.gen H 0 5,0⟩:Ref) (bO env.P (⟨0,5,Heap.gen H 0 5,0⟩:Ref) 94)) fun v4 H1 =>
 doW (aw env.P H1 94 (some v4) (some v3)) fun v5 H2 =>
 doQ (ab env.P 94 (some v4) 0) fun v6 =>
 doQ (an env.P (Heap.get H2) 3 (some v6)) fun v7 =>
 doQ (qBin env.P .leq 3 (.tmp 14) (.tmp 15) (some v7) (some x3)) fun v8 =>
 gQ v8 false (ab env.P 94 (some v4) 0) fun v9 =>
 gQ v8 false (an env.P (Heap.get H2) 3 (some v9)) fun v10 =>
 gQ v8 false (qBin env.P .geq 3 (.tmp 19) (.const (.int .i64 6146)) (some v10) (some (.v (.int .i64 6146)))) fun v11 =>
 doQ (aY (some v8) (some (.v (.bool true))) (some v11)) fun v12 =>
 gQ v12 false (ab env.P 94 (some v4) 1) fun v13 =>
 gQ v12 false (an env.P (Heap.get H2) 68 (some v13)) fun v14 =>
 gQ v12 false (ay env.P false (Heap.get H2) (⟨0,25,Heap.gen H2 0 25,0⟩:Ref) .len #[68] [v14]) fun v15 =>
 gQ v12 false (qBin env.P .neq 3 (.tmp 25) (.const (.int .i64 128)) (some v15) (some (.v (.int .i64 128)))) fun v16 =>
 doQ (aY (some v12) (some (.v (.bool true))) (some v16)) fun v17 =>
 br (some v17) (
 Q (.v (.int .i64 8)) H2) (
 doQ (ab env.P 94 (some v4) 0) fun v18 =>
 doQ (an env.P (Heap.get H2) 3 (some v18)) fun v19 =>
 doQ (qBin env.P .add 3 (.tmp 9) (.const (.int .i64 1)) (some x9) (some (.v (.int .i64 1)))) fun v20 =>
  GoL env Try.f29 0 iA [(9,v20),(3,v19),(7,x7),(1,x1),(8,x8)] H2 Q)) (
 doQ (ab env.P 24 (some x1) 1) fun v2 =>
 doQ (an env.P (Heap.get H) 3 (some v2)) fun v3 =>
 doQ (qBin env.P .lss 3 (.tmp 32) (.const (.int .i64 0)) (some v3) (some (.v (.int .i64 0)))) fun v4 =>
 gQ v4 false (ab env.P 24 (some x1) 1) fun v5 =>
 gQ v4 false (an env.P (Heap.get H) 3 (some v5)) fun v6 =>
 gQ v4 false (qBin env.P .geq 3 (.tmp 36) (.const (.int .i64 2147483648)) (some v6) (some (.v (.int .i64 2147483648)))) fun v7 =>
 doQ (aY (some v4) (some (.v (.bool true))) (some v7)) fun v8 =>
 gQ v8 false (ab env.P 24 (some x1) 2) fun v9 =>
 gQ v8 false (an env.P (Heap.get H) 3 (some v9)) fun v10 =>
 gQ v8 false (qBin env.P .lss 3 (.tmp 41) (.const (.int .i64 (-1))) (some v10) (some (.v (.int .i64 (-1))))) fun v11 =>
 doQ (aY (some v8) (some (.v (.bool true))) (some v11)) fun v12 =>
 gQ v12 false (ab env.P 24 (some x1) 2) fun v13 =>
 gQ v12 false (an env.P (Heap.get H) 3 (some v13)) fun v14 =>
 gQ v12 false (qBin env.P .geq 3 (.tmp 46) (.const (.int .i64 2147483648)) (some v14) (some (.v (.int .i64 2147483648)))) fun v15 =>
 doQ (aY (some v12) (some (.v (.bool true))) (some v15)) fun v16 =>
 gQ v16 false (ab env.P 24 (some x1) 3) fun v17 =>
 gQ v16 false (an env.P (Heap.get H) 4 (some v17)) fun v18 =>
 gQ v16 false (qVal (some v18)) fun v19 =>
 gQ v19 true (ab env.P 24 (some x1) 2) fun v20 =>
 gQ v19 true (an env.P (Heap.get H) 3 (some v20)) fun v21 =>
 gQ v19 true (qBin env.P .neq 3 (.tmp 54) (.const (.int .i64 0)) (some v21) (some (.v (.int .i64 0)))) fun v22 =>
 gQ v16 false (aY (some v19) (some v22) (some (.v (.bool false)))) fun v23 =>
 doQ (aY (some v16) (some (.v (.bool true))) (some v23)) fun v24 =>
 br (some v24) (
 Q (.v (.int .i64 8)) H) (
 Q (.v (.int .i64 0)) H))
theorem vH:j9=fun g x9 x3 x7 x1 x8 H Q=>wp env Try.f29 none 0 sS ta Q 500 (fk iA) (ofL g [(9,x9),(3,x3),(7,x7),(1,x1),(8,x8)]) H:=by kernel_rfl
theorem pZ (x9 x3 x7 x1 x8:AV) (H:Heap) (Q:AV→Heap→Prop) (h : ∀g,j9 g x9 x3 x7 x1 x8 H Q):GoL env Try.f29 0 iA [(9,x9),(3,x3),(7,x7),(1,x1),(8,x8)] H Q:=cQ fun g=>bg (by have h:=h g;rw [vH] at h;exact h)
noncomputable def nk:Code:=(Try.f30.body).getD .skip
noncomputable def iW:List Item:=(bP 3 400 [.code nk]).getD []
def ug:Nat→Option (List Nat):=fun i=>cond (Nat.beq i 3) (some [10,3,2,1,9]) (none)
def uu:Nat→Bool:=fun i=>false
def lj (g:Nat→AV) (x0:AV) (H:Heap) (Q:AV→Heap→Prop):Prop :=
 doW (nRes H (⟨0,1,Heap.gen H 0 1,0⟩:Ref) (qBox env.P (⟨0,1,Heap.gen H 0 1,0⟩:Ref) 24 (some x0))) fun v1 H1 =>
 doW (nRes H1 (⟨0,2,Heap.gen H1 0 2,0⟩:Ref) (bO env.P (⟨0,2,Heap.gen H1 0 2,0⟩:Ref) 24)) fun v2 H2 =>
 doQ (ab env.P 24 (some v1) 0) fun v3 =>
 doQ (an env.P (Heap.get H2) 22 (some v3)) fun v4 =>
 doW (ak env true (limf env) (limt env 0) H2 (⟨0,7,Heap.gen H2 0 7,0⟩:Ref) (some (.fn (.func 44) [] [])) [v4]) fun v5 H3 =>
 doQ (ay env.P false (Heap.get H3) (⟨0,9,Heap.gen H3 0 9,0⟩:Ref) .len #[22] [v5]) fun v6 =>
  GoL env Try.f30 0 iW [(10,(.v (.int .i64 0))),(3,v5),(2,v2),(1,v1),(9,v6)] H3 Q
theorem Bb:lj=fun g x0 H Q=>wp env Try.f30 none 0 ug uu Q 500 [.code nk] (ofL g [(0,x0)]) H:=by kernel_rfl
theorem Bl (x0:AV) (H:Heap) (Q:AV→Heap→Prop) (h : ∀g,lj g x0 H Q):GoL env Try.f30 0 [.code nk] [(0,x0)] H Q:=⟨fun g=>bg (by have h:=h g;rw [Bb] at h;exact h)⟩
def gY (g:Nat→AV) (x10 x3 x2 x1 x9:AV) (H:Heap) (Q:AV→Heap→Prop):Prop :=
 doQ (qBin env.P .lss 3 (.tmp 10) (.tmp 9) (some x10) (some x9)) fun v1 =>
 br (some v1) (
 doQ (au env.P (Heap.get H) 22 (some x3) (some x10)) fun v2 =>
 doQ (ab env.P 94 (some v2) 1) fun v3 =>
 doQ (an env.P (Heap.get H) 68 (some v3)) fun v4 =>
 doW (ak env true (limf env) (limt env 0) H (⟨0,20,Heap.gen H 0 20,0⟩:Ref) (some (.fn (.func 43) [] [])) [v4]) fun v5 H1 =>
 doQ (au env.P (Heap.get H1) 22 (some x3) (some x10)) fun v6 =>
 doQ (ab env.P 94 (some v6) 1) fun v7 =>
 doW (aw env.P H1 68 (some v7) (some v5)) fun v8 H2 =>
 doQ (qBin env.P .add 3 (.tmp 10) (.const (.int .i64 1)) (some x10) (some (.v (.int .i64 1)))) fun v9 =>
  GoL env Try.f30 0 iW [(10,v9),(3,x3),(2,x2),(1,x1),(9,x9)] H2 Q) (
 doQ (ab env.P 24 (some x1) 0) fun v2 =>
 doW (aw env.P H 22 (some v2) (some x3)) fun v3 H1 =>
 doQ (an env.P (Heap.get H1) 24 (some x1)) fun v4 =>
 doW (aw env.P H1 24 (some x2) (some v4)) fun v5 H2 =>
 doQ (aE env.P H2 x2 24) fun v6 =>
 Q v6 H2)
theorem xq:gY=fun g x10 x3 x2 x1 x9 H Q=>wp env Try.f30 none 0 ug uu Q 500 (fk iW) (ofL g [(10,x10),(3,x3),(2,x2),(1,x1),(9,x9)]) H:=by kernel_rfl
theorem kG (x10 x3 x2 x1 x9:AV) (H:Heap) (Q:AV→Heap→Prop) (h : ∀g,gY g x10 x3 x2 x1 x9 H Q):GoL env Try.f30 0 iW [(10,x10),(3,x3),(2,x2),(1,x1),(9,x9)] H Q:=cQ fun g=>bg (by have h:=h g;rw [xq] at h;exact h)
noncomputable def pw:Code:=(Try.f40.body).getD .skip
def Ak:Nat→Option (List Nat):=fun i=>none
def AB:Nat→Bool:=fun i=>false
def mm (g:Nat→AV) (x0 x1:AV) (H:Heap) (Q:AV→Heap→Prop):Prop :=
 doW (nRes H (⟨0,2,Heap.gen H 0 2,0⟩:Ref) (qBox env.P (⟨0,2,Heap.gen H 0 2,0⟩:Ref) 24 (some x0))) fun v1 H1 =>
 doQ (an env.P (Heap.get H1) 24 (some v1)) fun v2 =>
 doW (ak env true (limf env) (limt env 0) H1 (⟨0,7,Heap.gen H1 0 7,0⟩:Ref) (some (.fn (.func 29) [] [])) [v2]) fun v3 H2 =>
 doQ (qBin env.P .neq 25 (.tmp 8) (.const (.int .i64 0)) (some v3) (some (.v (.int .i64 0)))) fun v4 =>
 br (some v4) (
 Q v3 H2) (
 doQ (qBin env.P .lss 3 (.tmp 11) (.const (.int .i64 0)) (some x1) (some (.v (.int .i64 0)))) fun v5 =>
 gQ v5 false (qVal (some x1)) fun v6 =>
 gQ v5 false (qBin env.P .geq 3 (.tmp 14) (.const (.int .i64 6146)) (some v6) (some (.v (.int .i64 6146)))) fun v7 =>
 doQ (aY (some v5) (some (.v (.bool true))) (some v7)) fun v8 =>
 br (some v8) (
 Q (.v (.int .i64 2)) H2) (
 Q (.v (.int .i64 0)) H2))
theorem zm:mm=fun g x0 x1 H Q=>wp env Try.f40 none 0 Ak AB Q 500 [.code pw] (ofL g [(0,x0),(1,x1)]) H:=by kernel_rfl
theorem zH (x0 x1:AV) (H:Heap) (Q:AV→Heap→Prop) (h : ∀g,mm g x0 x1 H Q):GoL env Try.f40 0 [.code pw] [(0,x0),(1,x1)] H Q:=⟨fun g=>bg (by have h:=h g;rw [zm] at h;exact h)⟩
noncomputable def qB:Code:=(Try.f41.body).getD .skip
def BR:Nat→Option (List Nat):=fun i=>none
def Cn:Nat→Bool:=fun i=>false
def qI (g:Nat→AV) (x0 x1:AV) (H:Heap) (Q:AV→Heap→Prop):Prop :=
 doW (nRes H (⟨0,2,Heap.gen H 0 2,0⟩:Ref) (qBox env.P (⟨0,2,Heap.gen H 0 2,0⟩:Ref) 24 (some x0))) fun v1 H1 =>
 doQ (ab env.P 24 (some v1) 0) fun v2 =>
 doQ (an env.P (Heap.get H1) 22 (some v2)) fun v3 =>
 doW (ak env true (limf env) (limt env 0) H1 (⟨0,9,Heap.gen H1 0 9,0⟩:Ref) (some (.fn (.func 59) [] [])) [v3,x1,(.fn (.func 60) [] [])]) fun v4 H2 =>
 doQ (ao (some v4) 0) fun v5 =>
 doQ (ao (some v4) 1) fun v6 =>
 Q (.tup [v5,v6]) H2
theorem Ba:qI=fun g x0 x1 H Q=>wp env Try.f41 none 0 BR Cn Q 500 [.code qB] (ofL g [(0,x0),(1,x1)]) H:=by kernel_rfl
theorem Bk (x0 x1:AV) (H:Heap) (Q:AV→Heap→Prop) (h : ∀g,qI g x0 x1 H Q):GoL env Try.f41 0 [.code qB] [(0,x0),(1,x1)] H Q:=⟨fun g=>bg (by have h:=h g;rw [Ba] at h;exact h)⟩
noncomputable def rW:Code:=(Try.f43.body).getD .skip
def Dy:Nat→Option (List Nat):=fun i=>none
def D0:Nat→Bool:=fun i=>false
def sb (g:Nat→AV) (x0:AV) (H:Heap) (Q:AV→Heap→Prop):Prop :=
 doQ (ay env.P false (Heap.get H) (⟨0,5,Heap.gen H 0 5,0⟩:Ref) .len #[68] [x0]) fun v1 =>
 doW (nRes H (⟨0,6,Heap.gen H 0 6,0⟩:Ref) (rJ env.P (⟨0,6,Heap.gen H 0 6,0⟩:Ref) 68 (some v1) (some v1))) fun v2 H1 =>
 doW (tg env.P H1 (some 68) v2 x0) fun v3 H2 =>
 Q v2 H2
theorem CM:sb=fun g x0 H Q=>wp env Try.f43 none 0 Dy D0 Q 500 [.code rW] (ofL g [(0,x0)]) H:=by kernel_rfl
theorem CU (x0:AV) (H:Heap) (Q:AV→Heap→Prop) (h : ∀g,sb g x0 H Q):GoL env Try.f43 0 [.code rW] [(0,x0)] H Q:=⟨fun g=>bg (by have h:=h g;rw [CM] at h;exact h)⟩
noncomputable def aM:Code:=(Try.f44.body).getD .skip
def dU:Nat→Option (List Nat):=fun i=>none
def dV:Nat→Bool:=fun i=>false
def aN (g:Nat→AV) (x0:AV) (H:Heap) (Q:AV→Heap→Prop):Prop :=
 doQ (qBin env.P .eql 22 (.tmp 3) (.const (.slice none 0 0)) (some x0) (some (.v (.slice none 0 0)))) fun v1 =>
 br (some v1) (
 Q (.v (.slice none 0 0)) H) (
 doW (fX env.P false true H (⟨0,5,Heap.gen H 0 5,0⟩:Ref) 22 0 (some [])) fun v2 H1 =>
 doW (bQ env.P true H1 (⟨0,7,Heap.gen H1 0 7,0⟩:Ref) (some 22) (some 22) v2 x0) fun v3 H2 =>
 Q v3 H2)
theorem dT:aN=fun g x0 H Q=>wp env Try.f44 none 0 dU dV Q 500 [.code aM] (ofL g [(0,x0)]) H:=by kernel_rfl
theorem bn (x0:AV) (H:Heap) (Q:AV→Heap→Prop) (h : ∀g,aN g x0 H Q):GoL env Try.f44 0 [.code aM] [(0,x0)] H Q:=⟨fun g=>bg (by have h:=h g;rw [dT] at h;exact h)⟩
noncomputable def qC:Code:=(Try.f49.body).getD .skip
def BS:Nat→Option (List Nat):=fun i=>none
def Co:Nat→Bool:=fun i=>false
def jz (g:Nat→AV) (x0 x1:AV) (H:Heap) (Q:AV→Heap→Prop):Prop :=
 doW (nRes H (⟨0,2,Heap.gen H 0 2,0⟩:Ref) (qBox env.P (⟨0,2,Heap.gen H 0 2,0⟩:Ref) 24 (some x0))) fun v1 H1 =>
 doQ (an env.P (Heap.get H1) 24 (some v1)) fun v2 =>
 doW (ak env true (limf env) (limt env 0) H1 (⟨0,11,Heap.gen H1 0 11,0⟩:Ref) (some (.fn (.func 40) [] [])) [v2,x1]) fun v3 H2 =>
 doQ (qBin env.P .neq 25 (.tmp 12) (.const (.int .i64 0)) (some v3) (some (.v (.int .i64 0)))) fun v4 =>
 br (some v4) (
 Q (.tup [(.v (.slice none 0 0)),v3]) H2) (
 doQ (an env.P (Heap.get H2) 24 (some v1)) fun v5 =>
 doW (ak env true (limf env) (limt env 0) H2 (⟨0,18,Heap.gen H2 0 18,0⟩:Ref) (some (.fn (.func 41) [] [])) [v5,x1]) fun v6 H3 =>
 doQ (ao (some v6) 0) fun v7 =>
 doQ (ao (some v6) 1) fun v8 =>
 doQ (qUn env.P .not (some v8)) fun v9 =>
 br (some v9) (
 doW (nRes H3 (⟨0,23,Heap.gen H3 0 23,0⟩:Ref) (rJ env.P (⟨0,23,Heap.gen H3 0 23,0⟩:Ref) 68 (some (.v (.int .i64 128))) (some (.v (.int .i64 128))))) fun v10 H4 =>
 Q (.tup [v10,(.v (.int .i64 0))]) H4) (
 doQ (ab env.P 24 (some v1) 0) fun v10 =>
 doQ (an env.P (Heap.get H3) 22 (some v10)) fun v11 =>
 doQ (au env.P (Heap.get H3) 22 (some v11) (some v7)) fun v12 =>
 doQ (ab env.P 94 (some v12) 1) fun v13 =>
 doQ (an env.P (Heap.get H3) 68 (some v13)) fun v14 =>
 doW (ak env true (limf env) (limt env 0) H3 (⟨0,30,Heap.gen H3 0 30,0⟩:Ref) (some (.fn (.func 43) [] [])) [v14]) fun v15 H4 =>
 Q (.tup [v15,(.v (.int .i64 0))]) H4))
theorem Bc:jz=fun g x0 x1 H Q=>wp env Try.f49 none 0 BS Co Q 500 [.code qC] (ofL g [(0,x0),(1,x1)]) H:=by kernel_rfl
theorem Bm (x0 x1:AV) (H:Heap) (Q:AV→Heap→Prop) (h : ∀g,jz g x0 x1 H Q):GoL env Try.f49 0 [.code qC] [(0,x0),(1,x1)] H Q:=⟨fun g=>bg (by have h:=h g;rw [Bc] at h;exact h)⟩
noncomputable def aH:Code:=(Try.f59.body).getD .skip
noncomputable def ax:List Item:=(bP 3 400 [.code aH]).getD []
def bx:Nat→Option (List Nat):=fun i=>cond (Nat.beq i 3) (some [1,0,2,10,9,8]) (none)
def bA:Nat→Bool:=fun i=>false
def aW (g:Nat→AV) (x0 x1 x2:AV) (H:Heap) (Q:AV→Heap→Prop):Prop :=
 doQ (ay env.P false (Heap.get H) (⟨0,13,Heap.gen H 0 13,0⟩:Ref) .len #[22] [x0]) fun v1 =>
  GoL env Try.f59 0 ax [(1,x1),(0,x0),(2,x2),(10,v1),(9,(.v (.int .i64 0))),(8,v1)] H Q
theorem cU:aW=fun g x0 x1 x2 H Q=>wp env Try.f59 none 0 bx bA Q 500 [.code aH] (ofL g [(0,x0),(1,x1),(2,x2)]) H:=by kernel_rfl
theorem cV (x0 x1 x2:AV) (H:Heap) (Q:AV→Heap→Prop) (h : ∀g,aW g x0 x1 x2 H Q):GoL env Try.f59 0 [.code aH] [(0,x0),(1,x1),(2,x2)] H Q:=⟨fun g=>bg (by have h:=h g;rw [cU] at h;exact h)⟩
def aD (g:Nat→AV) (x1 x0 x2 x10 x9 x8:AV) (H:Heap) (Q:AV→Heap→Prop):Prop :=
 doQ (qBin env.P .lss 3 (.tmp 15) (.tmp 16) (some x9) (some x10)) fun v1 =>
 br (some v1) (
 doQ (qBin env.P .add 3 (.tmp 18) (.tmp 19) (some x9) (some x10)) fun v2 =>
 doQ (aJ env.P (Heap.get H) (⟨0,21,Heap.gen H 0 21,0⟩:Ref) 3 119 (some v2)) fun v3 =>
 doQ (qBin env.P .shr 119 (.tmp 21) (.const (.int .u64 1)) (some v3) (some (.v (.int .u64 1)))) fun v4 =>
 doQ (aJ env.P (Heap.get H) (⟨0,23,Heap.gen H 0 23,0⟩:Ref) 119 3 (some v4)) fun v5 =>
 doQ (au env.P (Heap.get H) 22 (some x0) (some v5)) fun v6 =>
 doQ (an env.P (Heap.get H) 94 (some v6)) fun v7 =>
 doW (ak env true (limf env) (limt env 0) H (⟨0,30,Heap.gen H 0 30,0⟩:Ref) (some x2) [v7,x1]) fun v8 H1 =>
 doQ (qBin env.P .lss 3 (.tmp 30) (.const (.int .i64 0)) (some v8) (some (.v (.int .i64 0)))) fun v9 =>
 br (some v9) (
 doQ (qBin env.P .add 3 (.tmp 32) (.const (.int .i64 1)) (some v5) (some (.v (.int .i64 1)))) fun v10 =>
  GoL env Try.f59 0 ax [(1,x1),(0,x0),(2,x2),(10,x10),(9,v10),(8,x8)] H1 Q) (
  GoL env Try.f59 0 ax [(1,x1),(0,x0),(2,x2),(10,v5),(9,x9),(8,x8)] H1 Q)) (
 doQ (qBin env.P .lss 3 (.tmp 36) (.tmp 37) (some x9) (some x8)) fun v2 =>
 gQ v2 true (qVal (some x2)) fun v3 =>
 gQ v2 true (qVal (some x0)) fun v4 =>
 gQ v2 true (qVal (some x9)) fun v5 =>
 gQ v2 true (au env.P (Heap.get H) 22 (some v4) (some v5)) fun v6 =>
 gQ v2 true (an env.P (Heap.get H) 94 (some v6)) fun v7 =>
 gQ v2 true (qVal (some x1)) fun v8 =>
 gW v2 true H (ak env true (limf env) (limt env 0) H (⟨0,46,Heap.gen H 0 46,0⟩:Ref) (some v3) [v7,v8]) fun v9 H1 =>
 gQ v2 true (qBin env.P .eql 3 (.tmp 46) (.const (.int .i64 0)) (some v9) (some (.v (.int .i64 0)))) fun v10 =>
 doQ (aY (some v2) (some v10) (some (.v (.bool false)))) fun v11 =>
 Q (.tup [x9,v11]) H1)
theorem cM:aD=fun g x1 x0 x2 x10 x9 x8 H Q=>wp env Try.f59 none 0 bx bA Q 500 (fk ax) (ofL g [(1,x1),(0,x0),(2,x2),(10,x10),(9,x9),(8,x8)]) H:=by kernel_rfl
theorem bt (x1 x0 x2 x10 x9 x8:AV) (H:Heap) (Q:AV→Heap→Prop) (h : ∀g,aD g x1 x0 x2 x10 x9 x8 H Q):GoL env Try.f59 0 ax [(1,x1),(0,x0),(2,x2),(10,x10),(9,x9),(8,x8)] H Q:=cQ fun g=>bg (by have h:=h g;rw [cM] at h;exact h)
noncomputable def nO:Code:=(Try.f60.body).getD .skip
def xR:Nat→Option (List Nat):=fun i=>none
def yd:Nat→Bool:=fun i=>false
def nW (g:Nat→AV) (x0 x1:AV) (H:Heap) (Q:AV→Heap→Prop):Prop :=
 doW (nRes H (⟨0,2,Heap.gen H 0 2,0⟩:Ref) (qBox env.P (⟨0,2,Heap.gen H 0 2,0⟩:Ref) 94 (some x0))) fun v1 H1 =>
 doQ (ab env.P 94 (some v1) 0) fun v2 =>
 doQ (an env.P (Heap.get H1) 3 (some v2)) fun v3 =>
 doW (ak env true (limf env) (limt env 0) H1 (⟨0,8,Heap.gen H1 0 8,0⟩:Ref) (some (.fn (.func 61) [] [])) [v3,x1]) fun v4 H2 =>
 Q v4 H2
theorem xp:nW=fun g x0 x1 H Q=>wp env Try.f60 none 0 xR yd Q 500 [.code nO] (ofL g [(0,x0),(1,x1)]) H:=by kernel_rfl
theorem xE (x0 x1:AV) (H:Heap) (Q:AV→Heap→Prop) (h : ∀g,nW g x0 x1 H Q):GoL env Try.f60 0 [.code nO] [(0,x0),(1,x1)] H Q:=⟨fun g=>bg (by have h:=h g;rw [xp] at h;exact h)⟩
noncomputable def jv:Code:=(Try.f61.body).getD .skip
def rM:Nat→Option (List Nat):=fun i=>none
def rR:Nat→Bool:=fun i=>false
def jw (g:Nat→AV) (x0 x1:AV) (H:Heap) (Q:AV→Heap→Prop):Prop :=
 doW (ak env true (limf env) (limt env 0) H (⟨0,8,Heap.gen H 0 8,0⟩:Ref) (some (.fn (.func 79) [] [])) [x0]) fun v1 H1 =>
 doW (ak env true (limf env) (limt env 0) H1 (⟨0,10,Heap.gen H1 0 10,0⟩:Ref) (some (.fn (.func 79) [] [])) [x1]) fun v2 H2 =>
 br (some v1) (
 br (some v2) (
 Q (.v (.int .i64 0)) H2) (
 Q (.v (.int .i64 (-1))) H2)) (
 br (some v2) (
 Q (.v (.int .i64 1)) H2) (
 doQ (qBin env.P .lss 3 (.tmp 14) (.tmp 15) (some x0) (some x1)) fun v3 =>
 br (some v3) (
 Q (.v (.int .i64 (-1))) H2) (
 doQ (qBin env.P .gtr 3 (.tmp 17) (.tmp 18) (some x0) (some x1)) fun v4 =>
 br (some v4) (
 Q (.v (.int .i64 1)) H2) (
 Q (.v (.int .i64 0)) H2))))
theorem ry:jw=fun g x0 x1 H Q=>wp env Try.f61 none 0 rM rR Q 500 [.code jv] (ofL g [(0,x0),(1,x1)]) H:=by kernel_rfl
theorem rB (x0 x1:AV) (H:Heap) (Q:AV→Heap→Prop) (h : ∀g,jw g x0 x1 H Q):GoL env Try.f61 0 [.code jv] [(0,x0),(1,x1)] H Q:=⟨fun g=>bg (by have h:=h g;rw [ry] at h;exact h)⟩
noncomputable def kE:Code:=(Try.f79.body).getD .skip
def tD:Nat→Option (List Nat):=fun i=>none
def tH:Nat→Bool:=fun i=>false
def kF (g:Nat→AV) (x0:AV) (H:Heap) (Q:AV→Heap→Prop):Prop :=
 doQ (qBin env.P .neq 3 (.tmp 3) (.tmp 4) (some x0) (some x0)) fun v1 =>
 Q v1 H
theorem th:kF=fun g x0 H Q=>wp env Try.f79 none 0 tD tH Q 500 [.code kE] (ofL g [(0,x0)]) H:=by kernel_rfl
theorem ti (x0:AV) (H:Heap) (Q:AV→Heap→Prop) (h : ∀g,kF g x0 H Q):GoL env Try.f79 0 [.code kE] [(0,x0)] H Q:=⟨fun g=>bg (by have h:=h g;rw [th] at h;exact h)⟩
end Go.Proofs.Ytmjkpdknicjjgaa
