/-
  What is to be shown of each function, computed from its code. No statement of a seat is proved here.
-/
import Derived.Test.YtmjkpdknicjjgaaLgTy
set_option linter.unusedVariables false
set_option maxRecDepth 1000000
namespace Go.Proofs.Ytmjkpdknicjjgaa
open Go.Ab
noncomputable def eQ:Code:=(Try.f70.body).getD .skip
noncomputable def dm:List Item:=(cx 4 400 [.code eQ]).getD []
def jy:Nat→Option (List Nat):=fun i=>cond (Nat.beq i 4) (some [5,1,0]) (none)
def jJ:Nat→Bool:=fun i=>false
def eR (g:Nat→AV) (x0 x1:AV) (H:Heap) (Q:AV→Heap→Prop):Prop :=
 doQ (ax env.P false (Heap.get H) (⟨0,7,Heap.gen H 0 7,0⟩:Ref) .len #[40] [x0]) fun v1 =>
 doQ (ax env.P false (Heap.get H) (⟨0,9,Heap.gen H 0 9,0⟩:Ref) .len #[40] [x1]) fun v2 =>
 doQ (qBin env.P .neq 3 (.tmp 7) (.tmp 9) (some v1) (some v2)) fun v3 =>
 br (some v3) (
 Q (.v (.bool false)) H) (
  GoL env Try.f70 0 dm [(5,(.v (.int .i64 0))),(1,x1),(0,x0)] H Q)
theorem nV:eR=fun g x0 x1 H Q=>wp env Try.f70 none 0 jy jJ Q 500 [.code eQ] (ofL g [(0,x0),(1,x1)]) H:=by kernel_rfl
theorem nZ (x0 x1:AV) (H:Heap) (Q:AV→Heap→Prop) (h : ∀g,eR g x0 x1 H Q):GoL env Try.f70 0 [.code eQ] [(0,x0),(1,x1)] H Q:=⟨fun g=>bt (by have h:=h g;rw [nV] at h;exact h)⟩
def dt (g:Nat→AV) (x5 x1 x0:AV) (H:Heap) (Q:AV→Heap→Prop):Prop :=
 doQ (ax env.P false (Heap.get H) (⟨0,13,Heap.gen H 0 13,0⟩:Ref) .len #[40] [x0]) fun v1 =>
 doQ (qBin env.P .lss 3 (.tmp 11) (.tmp 13) (some x5) (some v1)) fun v2 =>
 br (some v2) (
 doQ (az env.P (Heap.get H) 40 (some x0) (some x5)) fun v3 =>
 doQ (an env.P (Heap.get H) 21 (some v3)) fun v4 =>
 doQ (az env.P (Heap.get H) 40 (some x1) (some x5)) fun v5 =>
 doQ (an env.P (Heap.get H) 21 (some v5)) fun v6 =>
 doQ (qBin env.P .neq 21 (.tmp 20) (.tmp 24) (some v4) (some v6)) fun v7 =>
 br (some v7) (
 Q (.v (.bool false)) H) (
 doQ (qBin env.P .add 3 (.tmp 15) (.const (.int .i64 1)) (some x5) (some (.v (.int .i64 1)))) fun v8 =>
  GoL env Try.f70 0 dm [(5,v8),(1,x1),(0,x0)] H Q)) (
 Q (.v (.bool true)) H)
theorem mR:dt=fun g x5 x1 x0 H Q=>wp env Try.f70 none 0 jy jJ Q 500 (gC dm) (ofL g [(5,x5),(1,x1),(0,x0)]) H:=by kernel_rfl
theorem iH (x5 x1 x0:AV) (H:Heap) (Q:AV→Heap→Prop) (h : ∀g,dt g x5 x1 x0 H Q):GoL env Try.f70 0 dm [(5,x5),(1,x1),(0,x0)] H Q:=dJ fun g=>bt (by have h:=h g;rw [mR] at h;exact h)
noncomputable def jM:Code:=(Try.f71.body).getD .skip
def rZ:Nat→Option (List Nat):=fun i=>none
def sg:Nat→Bool:=fun i=>false
def jQ (g:Nat→AV) (x0:AV) (H:Heap) (Q:AV→Heap→Prop):Prop :=
 doW (nRes H (⟨0,1,Heap.gen H 0 1,0⟩:Ref) (qBox env.P (⟨0,1,Heap.gen H 0 1,0⟩:Ref) 35 (some x0))) fun v1 H1 =>
 doQ (ab env.P 35 (some v1) 0) fun v2 =>
 doQ (an env.P (Heap.get H1) 33 (some v2)) fun v3 =>
 doW (ak env true (limf env) (limt env 0) H1 (⟨0,5,Heap.gen H1 0 5,0⟩:Ref) (some (.fn (.func 85) [] [])) [v3]) fun v4 H2 =>
 doQ (qBin env.P .eql 25 (.tmp 5) (.const (.int .i64 0)) (some v4) (some (.v (.int .i64 0)))) fun v5 =>
 gQ v5 true (ab env.P 35 (some v1) 1) fun v6 =>
 gQ v5 true (an env.P (Heap.get H2) 5 (some v6)) fun v7 =>
 gQ v5 true (qBin env.P .lss 5 (.tmp 9) (.const (.int .u8 8)) (some v7) (some (a8 8))) fun v8 =>
 doQ (bg (some v5) (some v8) (some (.v (.bool false)))) fun v9 =>
 doW (ak env true (limf env) (limt env 0) H2 (⟨0,12,Heap.gen H2 0 12,0⟩:Ref) (some (.fn (.func 84) [] [])) [v9]) fun v10 H3 =>
 Q v10 H3
theorem ru:jQ=fun g x0 H Q=>wp env Try.f71 none 0 rZ sg Q 500 [.code jM] (ofL g [(0,x0)]) H:=by kernel_rfl
theorem rF (x0:AV) (H:Heap) (Q:AV→Heap→Prop) (h : ∀g,jQ g x0 H Q):GoL env Try.f71 0 [.code jM] [(0,x0)] H Q:=⟨fun g=>bt (by have h:=h g;rw [ru] at h;exact h)⟩
noncomputable def k8:Code:=(Try.f86.body).getD .skip
def tV:Nat→Option (List Nat):=fun i=>none
def uc:Nat→Bool:=fun i=>false
def fw (g:Nat→AV) (x0:AV) (H:Heap) (Q:AV→Heap→Prop):Prop :=
 doW (nRes H (⟨0,1,Heap.gen H 0 1,0⟩:Ref) (qBox env.P (⟨0,1,Heap.gen H 0 1,0⟩:Ref) 39 (some x0))) fun v1 H1 =>
 doQ (ab env.P 39 (some v1) 0) fun v2 =>
 doQ (an env.P (Heap.get H1) 37 (some v2)) fun v3 =>
 doW (ak env true (limf env) (limt env 0) H1 (⟨0,5,Heap.gen H1 0 5,0⟩:Ref) (some (.fn (.func 88) [] [])) [v3]) fun v4 H2 =>
 doQ (qBin env.P .eql 25 (.tmp 5) (.const (.int .i64 0)) (some v4) (some (.v (.int .i64 0)))) fun v5 =>
 gQ v5 true (ab env.P 39 (some v1) 1) fun v6 =>
 gQ v5 true (an env.P (Heap.get H2) 3 (some v6)) fun v7 =>
 gQ v5 true (qBin env.P .geq 3 (.tmp 9) (.const (.int .i64 1)) (some v7) (some (.v (.int .i64 1)))) fun v8 =>
 doQ (bg (some v5) (some v8) (some (.v (.bool false)))) fun v9 =>
 gQ v9 true (ab env.P 39 (some v1) 1) fun v10 =>
 gQ v9 true (an env.P (Heap.get H2) 3 (some v10)) fun v11 =>
 gQ v9 true (qBin env.P .leq 3 (.tmp 14) (.const (.int .i64 64)) (some v11) (some (.v (.int .i64 64)))) fun v12 =>
 doQ (bg (some v9) (some v12) (some (.v (.bool false)))) fun v13 =>
 gQ v13 true (ab env.P 39 (some v1) 0) fun v14 =>
 gQ v13 true (ab env.P 37 (some v14) 1) fun v15 =>
 gQ v13 true (an env.P (Heap.get H2) 3 (some v15)) fun v16 =>
 gQ v13 true (ab env.P 39 (some v1) 1) fun v17 =>
 gQ v13 true (an env.P (Heap.get H2) 3 (some v17)) fun v18 =>
 gQ v13 true (qBin env.P .add 3 (.tmp 20) (.tmp 22) (some v16) (some v18)) fun v19 =>
 gQ v13 true (qBin env.P .sub 3 (.tmp 23) (.const (.int .i64 1)) (some v19) (some (.v (.int .i64 1)))) fun v20 =>
 gQ v13 true (qBin env.P .leq 3 (.tmp 24) (.const (.int .i64 1099511627776)) (some v20) (some (.v (.int .i64 1099511627776)))) fun v21 =>
 doQ (bg (some v13) (some v21) (some (.v (.bool false)))) fun v22 =>
 doW (ak env true (limf env) (limt env 0) H2 (⟨0,27,Heap.gen H2 0 27,0⟩:Ref) (some (.fn (.func 84) [] [])) [v22]) fun v23 H3 =>
 Q v23 H3
theorem tJ:fw=fun g x0 H Q=>wp env Try.f86 none 0 tV uc Q 500 [.code k8] (ofL g [(0,x0)]) H:=by kernel_rfl
theorem tN (x0:AV) (H:Heap) (Q:AV→Heap→Prop) (h : ∀g,fw g x0 H Q):GoL env Try.f86 0 [.code k8] [(0,x0)] H Q:=⟨fun g=>bt (by have h:=h g;rw [tJ] at h;exact h)⟩
noncomputable def dc:Code:=(Try.f92.body).getD .skip
noncomputable def cf:List Item:=(cx 4 400 [.code dc]).getD []
def fX:Nat→Option (List Nat):=fun i=>cond (Nat.beq i 4) (some [13,1,0,12]) (none)
def ga:Nat→Bool:=fun i=>false
def de (g:Nat→AV) (x0 x1:AV) (H:Heap) (Q:AV→Heap→Prop):Prop :=
 doQ (ax env.P false (Heap.get H) (⟨0,7,Heap.gen H 0 7,0⟩:Ref) .len #[40] [x0]) fun v1 =>
 doQ (ax env.P false (Heap.get H) (⟨0,9,Heap.gen H 0 9,0⟩:Ref) .len #[40] [x1]) fun v2 =>
 doQ (qBin env.P .neq 3 (.tmp 7) (.tmp 9) (some v1) (some v2)) fun v3 =>
 br (some v3) (
 Q (.v (.bool false)) H) (
 doQ (ax env.P false (Heap.get H) (⟨0,12,Heap.gen H 0 12,0⟩:Ref) .len #[40] [x0]) fun v4 =>
  GoL env Try.f92 0 cf [(13,(.v (.int .i64 0))),(1,x1),(0,x0),(12,v4)] H Q)
theorem ku:de=fun g x0 x1 H Q=>wp env Try.f92 none 0 fX ga Q 500 [.code dc] (ofL g [(0,x0),(1,x1)]) H:=by kernel_rfl
theorem kA (x0 x1:AV) (H:Heap) (Q:AV→Heap→Prop) (h : ∀g,de g x0 x1 H Q):GoL env Try.f92 0 [.code dc] [(0,x0),(1,x1)] H Q:=⟨fun g=>bt (by have h:=h g;rw [ku] at h;exact h)⟩
def ch (g:Nat→AV) (x13 x1 x0 x12:AV) (H:Heap) (Q:AV→Heap→Prop):Prop :=
 doQ (qBin env.P .lss 3 (.tmp 13) (.tmp 12) (some x13) (some x12)) fun v1 =>
 br (some v1) (
 doQ (az env.P (Heap.get H) 40 (some x0) (some x13)) fun v2 =>
 doQ (an env.P (Heap.get H) 21 (some v2)) fun v3 =>
 doQ (az env.P (Heap.get H) 40 (some x1) (some x13)) fun v4 =>
 doQ (an env.P (Heap.get H) 21 (some v4)) fun v5 =>
 doQ (qBin env.P .neq 21 (.tmp 19) (.tmp 23) (some v3) (some v5)) fun v6 =>
 br (some v6) (
 Q (.v (.bool false)) H) (
 doQ (qBin env.P .add 3 (.tmp 13) (.const (.int .i64 1)) (some x13) (some (.v (.int .i64 1)))) fun v7 =>
  GoL env Try.f92 0 cf [(13,v7),(1,x1),(0,x0),(12,x12)] H Q)) (
 Q (.v (.bool true)) H)
theorem jU:ch=fun g x13 x1 x0 x12 H Q=>wp env Try.f92 none 0 fX ga Q 500 (gC cf) (ofL g [(13,x13),(1,x1),(0,x0),(12,x12)]) H:=by kernel_rfl
theorem fL (x13 x1 x0 x12:AV) (H:Heap) (Q:AV→Heap→Prop) (h : ∀g,ch g x13 x1 x0 x12 H Q):GoL env Try.f92 0 cf [(13,x13),(1,x1),(0,x0),(12,x12)] H Q:=dJ fun g=>bt (by have h:=h g;rw [jU] at h;exact h)
noncomputable def pE:Code:=(Try.f88.body).getD .skip
def Ay:Nat→Option (List Nat):=fun i=>none
def AU:Nat→Bool:=fun i=>false
def pM (g:Nat→AV) (x0:AV) (H:Heap) (Q:AV→Heap→Prop):Prop :=
 doW (nRes H (⟨0,1,Heap.gen H 0 1,0⟩:Ref) (qBox env.P (⟨0,1,Heap.gen H 0 1,0⟩:Ref) 37 (some x0))) fun v1 H1 =>
 doQ (ab env.P 37 (some v1) 0) fun v2 =>
 doQ (an env.P (Heap.get H1) 35 (some v2)) fun v3 =>
 doW (ak env true (limf env) (limt env 0) H1 (⟨0,5,Heap.gen H1 0 5,0⟩:Ref) (some (.fn (.func 71) [] [])) [v3]) fun v4 H2 =>
 doQ (qBin env.P .eql 25 (.tmp 5) (.const (.int .i64 0)) (some v4) (some (.v (.int .i64 0)))) fun v5 =>
 gQ v5 true (ab env.P 37 (some v1) 1) fun v6 =>
 gQ v5 true (an env.P (Heap.get H2) 3 (some v6)) fun v7 =>
 gQ v5 true (qBin env.P .geq 3 (.tmp 9) (.const (.int .i64 1)) (some v7) (some (.v (.int .i64 1)))) fun v8 =>
 doQ (bg (some v5) (some v8) (some (.v (.bool false)))) fun v9 =>
 gQ v9 true (ab env.P 37 (some v1) 1) fun v10 =>
 gQ v9 true (an env.P (Heap.get H2) 3 (some v10)) fun v11 =>
 gQ v9 true (qBin env.P .leq 3 (.tmp 14) (.const (.int .i64 1099511627776)) (some v11) (some (.v (.int .i64 1099511627776)))) fun v12 =>
 doQ (bg (some v9) (some v12) (some (.v (.bool false)))) fun v13 =>
 doW (ak env true (limf env) (limt env 0) H2 (⟨0,17,Heap.gen H2 0 17,0⟩:Ref) (some (.fn (.func 84) [] [])) [v13]) fun v14 H3 =>
 Q v14 H3
theorem zO:pM=fun g x0 H Q=>wp env Try.f88 none 0 Ay AU Q 500 [.code pE] (ofL g [(0,x0)]) H:=by kernel_rfl
theorem zZ (x0:AV) (H:Heap) (Q:AV→Heap→Prop) (h : ∀g,pM g x0 H Q):GoL env Try.f88 0 [.code pE] [(0,x0)] H Q:=⟨fun g=>bt (by have h:=h g;rw [zO] at h;exact h)⟩
noncomputable def mZ:Code:=(Try.f89.body).getD .skip
def wH:Nat→Option (List Nat):=fun i=>none
def wT:Nat→Bool:=fun i=>false
def ko (g:Nat→AV) (x0:AV) (H:Heap) (Q:AV→Heap→Prop):Prop :=
 doQ (ax env.P false (Heap.get H) (⟨0,6,Heap.gen H 0 6,0⟩:Ref) .len #[40] [x0]) fun v1 =>
 doQ (qBin env.P .gtr 3 (.tmp 6) (.const (.int .i64 64)) (some v1) (some (.v (.int .i64 64)))) fun v2 =>
 br (some v2) (
 Q (.v (.int .i64 4)) H) (
 doW (ak env true (limf env) (limt env 0) H (⟨0,11,Heap.gen H 0 11,0⟩:Ref) (some (.fn (.func 109) [] [])) [x0,(.fn (.func 107) [] [])]) fun v3 H1 =>
 br (some v3) (
 Q (.v (.int .i64 8)) H1) (
 Q (.v (.int .i64 0)) H1))
theorem vW:ko=fun g x0 H Q=>wp env Try.f89 none 0 wH wT Q 500 [.code mZ] (ofL g [(0,x0)]) H:=by kernel_rfl
theorem wm (x0:AV) (H:Heap) (Q:AV→Heap→Prop) (h : ∀g,ko g x0 H Q):GoL env Try.f89 0 [.code mZ] [(0,x0)] H Q:=⟨fun g=>bt (by have h:=h g;rw [vW] at h;exact h)⟩
noncomputable def na:Code:=(Try.f85.body).getD .skip
def wL:Nat→Option (List Nat):=fun i=>none
def wX:Nat→Bool:=fun i=>false
def nk (g:Nat→AV) (x0:AV) (H:Heap) (Q:AV→Heap→Prop):Prop :=
 doW (nRes H (⟨0,1,Heap.gen H 0 1,0⟩:Ref) (qBox env.P (⟨0,1,Heap.gen H 0 1,0⟩:Ref) 33 (some x0))) fun v1 H1 =>
 doQ (ab env.P 33 (some v1) 0) fun v2 =>
 doQ (an env.P (Heap.get H1) 5 (some v2)) fun v3 =>
 doQ (qBin env.P .gtr 5 (.tmp 4) (.const (.int .u8 15)) (some v3) (some (a8 15))) fun v4 =>
 br (some v4) (
 Q (.v (.int .i64 8)) H1) (
 Q (.v (.int .i64 0)) H1)
theorem wc:nk=fun g x0 H Q=>wp env Try.f85 none 0 wL wX Q 500 [.code na] (ofL g [(0,x0)]) H:=by kernel_rfl
theorem wy (x0:AV) (H:Heap) (Q:AV→Heap→Prop) (h : ∀g,nk g x0 H Q):GoL env Try.f85 0 [.code na] [(0,x0)] H Q:=⟨fun g=>bt (by have h:=h g;rw [wc] at h;exact h)⟩
noncomputable def pD:Code:=(Try.f84.body).getD .skip
def Aw:Nat→Option (List Nat):=fun i=>none
def AS:Nat→Bool:=fun i=>false
def pL (g:Nat→AV) (x0:AV) (H:Heap) (Q:AV→Heap→Prop):Prop :=
 br (some x0) (
 Q (.v (.int .i64 0)) H) (
 Q (.v (.int .i64 8)) H)
theorem zM:pL=fun g x0 H Q=>wp env Try.f84 none 0 Aw AS Q 500 [.code pD] (ofL g [(0,x0)]) H:=by kernel_rfl
theorem zY (x0:AV) (H:Heap) (Q:AV→Heap→Prop) (h : ∀g,pL g x0 H Q):GoL env Try.f84 0 [.code pD] [(0,x0)] H Q:=⟨fun g=>bt (by have h:=h g;rw [zM] at h;exact h)⟩
noncomputable def k5:Code:=(Try.f107.body).getD .skip
def tS:Nat→Option (List Nat):=fun i=>none
def tX:Nat→Bool:=fun i=>false
def iU (g:Nat→AV) (x0:AV) (H:Heap) (Q:AV→Heap→Prop):Prop :=
 doQ (qBin env.P .neq 21 (.tmp 3) (.const (.int .i32 (-1))) (some x0) (some (.v (.int .i32 (-1))))) fun v1 =>
 gQ v1 true (qVal (some x0)) fun v2 =>
 gW v1 true H (ak env true (limf env) (limt env 0) H (⟨0,7,Heap.gen H 0 7,0⟩:Ref) (some (.fn (.func 108) [] [])) [v2]) fun v3 H1 =>
 gQ v1 true (qUn env.P .not (some v3)) fun v4 =>
 doQ (bg (some v1) (some v4) (some (.v (.bool false)))) fun v5 =>
 Q v5 H1
theorem tD:iU=fun g x0 H Q=>wp env Try.f107 none 0 tS tX Q 500 [.code k5] (ofL g [(0,x0)]) H:=by kernel_rfl
theorem tK (x0:AV) (H:Heap) (Q:AV→Heap→Prop) (h : ∀g,iU g x0 H Q):GoL env Try.f107 0 [.code k5] [(0,x0)] H Q:=⟨fun g=>bt (by have h:=h g;rw [tD] at h;exact h)⟩
noncomputable def fG:Code:=(Try.f108.body).getD .skip
def mU:Nat→Option (List Nat):=fun i=>none
def mX:Nat→Bool:=fun i=>false
def fH (g:Nat→AV) (x0:AV) (H:Heap) (Q:AV→Heap→Prop):Prop :=
 doQ (qBin env.P .leq 21 (.const (.int .i32 0)) (.tmp 4) (some (.v (.int .i32 0))) (some x0)) fun v1 =>
 gQ v1 true (qVal (some x0)) fun v2 =>
 gQ v1 true (qBin env.P .lss 21 (.tmp 7) (.const (.int .i32 55296)) (some v2) (some (.v (.int .i32 55296)))) fun v3 =>
 doQ (bg (some v1) (some v3) (some (.v (.bool false)))) fun v4 =>
 br (some v4) (
 Q (.v (.bool true)) H) (
 doQ (qBin env.P .lss 21 (.const (.int .i32 57343)) (.tmp 11) (some (.v (.int .i32 57343))) (some x0)) fun v5 =>
 gQ v5 true (qVal (some x0)) fun v6 =>
 gQ v5 true (qBin env.P .leq 21 (.tmp 14) (.const (.int .i32 1114111)) (some v6) (some (.v (.int .i32 1114111)))) fun v7 =>
 doQ (bg (some v5) (some v7) (some (.v (.bool false)))) fun v8 =>
 br (some v8) (
 Q (.v (.bool true)) H) (
 Q (.v (.bool false)) H))
theorem mP:fH=fun g x0 H Q=>wp env Try.f108 none 0 mU mX Q 500 [.code fG] (ofL g [(0,x0)]) H:=by kernel_rfl
theorem mS (x0:AV) (H:Heap) (Q:AV→Heap→Prop) (h : ∀g,fH g x0 H Q):GoL env Try.f108 0 [.code fG] [(0,x0)] H Q:=⟨fun g=>bt (by have h:=h g;rw [mP] at h;exact h)⟩
noncomputable def dp:Code:=(Try.f109.body).getD .skip
def iI:Nat→Option (List Nat):=fun i=>none
def iP:Nat→Bool:=fun i=>false
def dq (g:Nat→AV) (x0 x1:AV) (H:Heap) (Q:AV→Heap→Prop):Prop :=
 doW (ak env true (limf env) (limt env 0) H (⟨0,7,Heap.gen H 0 7,0⟩:Ref) (some (.fn (.func 112) [] [])) [x0,x1]) fun v1 H1 =>
 doQ (qBin env.P .geq 3 (.tmp 7) (.const (.int .i64 0)) (some v1) (some (.v (.int .i64 0)))) fun v2 =>
 Q v2 H1
theorem iE:dq=fun g x0 x1 H Q=>wp env Try.f109 none 0 iI iP Q 500 [.code dp] (ofL g [(0,x0),(1,x1)]) H:=by kernel_rfl
theorem iF (x0 x1:AV) (H:Heap) (Q:AV→Heap→Prop) (h : ∀g,dq g x0 x1 H Q):GoL env Try.f109 0 [.code dp] [(0,x0),(1,x1)] H Q:=⟨fun g=>bt (by have h:=h g;rw [iE] at h;exact h)⟩
noncomputable def cO:Code:=(Try.f112.body).getD .skip
noncomputable def bO:List Item:=(cx 2 400 [.code cO]).getD []
def fy:Nat→Option (List Nat):=fun i=>cond (Nat.beq i 2) (some [8,0,1,7]) (none)
def fD:Nat→Bool:=fun i=>false
def dP (g:Nat→AV) (x0 x1:AV) (H:Heap) (Q:AV→Heap→Prop):Prop :=
 doQ (ax env.P false (Heap.get H) (⟨0,7,Heap.gen H 0 7,0⟩:Ref) .len #[40] [x0]) fun v1 =>
  GoL env Try.f112 0 bO [(8,(.v (.int .i64 0))),(0,x0),(1,x1),(7,v1)] H Q
theorem jm:dP=fun g x0 x1 H Q=>wp env Try.f112 none 0 fy fD Q 500 [.code cO] (ofL g [(0,x0),(1,x1)]) H:=by kernel_rfl
theorem jq (x0 x1:AV) (H:Heap) (Q:AV→Heap→Prop) (h : ∀g,dP g x0 x1 H Q):GoL env Try.f112 0 [.code cO] [(0,x0),(1,x1)] H Q:=⟨fun g=>bt (by have h:=h g;rw [jm] at h;exact h)⟩
def bP (g:Nat→AV) (x8 x0 x1 x7:AV) (H:Heap) (Q:AV→Heap→Prop):Prop :=
 doQ (qBin env.P .lss 3 (.tmp 8) (.tmp 7) (some x8) (some x7)) fun v1 =>
 br (some v1) (
 doQ (az env.P (Heap.get H) 40 (some x0) (some x8)) fun v2 =>
 doQ (an env.P (Heap.get H) 21 (some v2)) fun v3 =>
 doW (ak env true (limf env) (limt env 0) H (⟨0,16,Heap.gen H 0 16,0⟩:Ref) (some x1) [v3]) fun v4 H1 =>
 br (some v4) (
 Q x8 H1) (
 doQ (qBin env.P .add 3 (.tmp 8) (.const (.int .i64 1)) (some x8) (some (.v (.int .i64 1)))) fun v5 =>
  GoL env Try.f112 0 bO [(8,v5),(0,x0),(1,x1),(7,x7)] H1 Q)) (
 Q (.v (.int .i64 (-1))) H)
theorem iY:bP=fun g x8 x0 x1 x7 H Q=>wp env Try.f112 none 0 fy fD Q 500 (gC bO) (ofL g [(8,x8),(0,x0),(1,x1),(7,x7)]) H:=by kernel_rfl
theorem eV (x8 x0 x1 x7:AV) (H:Heap) (Q:AV→Heap→Prop) (h : ∀g,bP g x8 x0 x1 x7 H Q):GoL env Try.f112 0 bO [(8,x8),(0,x0),(1,x1),(7,x7)] H Q:=dJ fun g=>bt (by have h:=h g;rw [iY] at h;exact h)
noncomputable def jL:Code:=(Try.f72.body).getD .skip
noncomputable def jE:List Item:=(cx 2 400 [.code jL]).getD []
def rY:Nat→Option (List Nat):=fun i=>cond (Nat.beq i 2) (some [5,0,4]) (none)
def sf:Nat→Bool:=fun i=>false
def lH (g:Nat→AV) (x0 x1:AV) (H:Heap) (Q:AV→Heap→Prop):Prop :=
 doQ (qBin env.P .sub 3 (.tmp 6) (.const (.int .i64 1)) (some x1) (some (.v (.int .i64 1)))) fun v1 =>
  GoL env Try.f72 0 jE [(5,v1),(0,x0),(4,(.v (.slice none 0 0)))] H Q
theorem yb:lH=fun g x0 x1 H Q=>wp env Try.f72 none 0 rY sf Q 500 [.code jL] (ofL g [(0,x0),(1,x1)]) H:=by kernel_rfl
theorem rE (x0 x1:AV) (H:Heap) (Q:AV→Heap→Prop) (h : ∀g,lH g x0 x1 H Q):GoL env Try.f72 0 [.code jL] [(0,x0),(1,x1)] H Q:=⟨fun g=>bt (by have h:=h g;rw [yb] at h;exact h)⟩
def bQ (g:Nat→AV) (x5 x0 x4:AV) (H:Heap) (Q:AV→Heap→Prop):Prop :=
 doQ (qBin env.P .geq 3 (.tmp 8) (.const (.int .i64 0)) (some x5) (some (.v (.int .i64 0)))) fun v1 =>
 br (some v1) (
 doQ (qBin env.P .mul 3 (.const (.int .i64 8)) (.tmp 14) (some (.v (.int .i64 8))) (some x5)) fun v2 =>
 doQ (qBin env.P .shr 3 (.tmp 13) (.tmp 15) (some x0) (some v2)) fun v3 =>
 doQ (aN env.P (Heap.get H) (⟨0,17,Heap.gen H 0 17,0⟩:Ref) 3 5 (some v3)) fun v4 =>
 doW (gq env.P false true H (⟨0,18,Heap.gen H 0 18,0⟩:Ref) 68 1 (some [(0,v4)])) fun v5 H1 =>
 doW (bN env.P true H1 (⟨0,19,Heap.gen H1 0 19,0⟩:Ref) (some 68) (some 68) x4 v5) fun v6 H2 =>
 doQ (qBin env.P .sub 3 (.tmp 10) (.const (.int .i64 1)) (some x5) (some (.v (.int .i64 1)))) fun v7 =>
  GoL env Try.f72 0 jE [(5,v7),(0,x0),(4,v6)] H2 Q) (
 Q x4 H)
theorem uG:bQ=fun g x5 x0 x4 H Q=>wp env Try.f72 none 0 rY sf Q 500 (gC jE) (ofL g [(5,x5),(0,x0),(4,x4)]) H:=by kernel_rfl
theorem cl (x5 x0 x4:AV) (H:Heap) (Q:AV→Heap→Prop) (h : ∀g,bQ g x5 x0 x4 H Q):GoL env Try.f72 0 jE [(5,x5),(0,x0),(4,x4)] H Q:=dJ fun g=>bt (by have h:=h g;rw [uG] at h;exact h)
noncomputable def oE:Code:=(Try.f110.body).getD .skip
noncomputable def jD:List Item:=(cx 2 400 [.code oE]).getD []
def vm:Nat→Option (List Nat):=fun i=>cond (Nat.beq i 2) (some [7,2,5,6]) (none)
def vI:Nat→Bool:=fun i=>false
def rk (g:Nat→AV) (x0:AV) (H:Heap) (Q:AV→Heap→Prop):Prop :=
 doQ (ax env.P false (Heap.get H) (⟨0,6,Heap.gen H 0 6,0⟩:Ref) .len #[68] [x0]) fun v1 =>
  GoL env Try.f110 0 jD [(7,(.v (.int .i64 0))),(2,(.v (.int .i64 0))),(5,x0),(6,v1)] H Q
theorem Bs:rk=fun g x0 H Q=>wp env Try.f110 none 0 vm vI Q 500 [.code oE] (ofL g [(0,x0)]) H:=by kernel_rfl
theorem BA (x0:AV) (H:Heap) (Q:AV→Heap→Prop) (h : ∀g,rk g x0 H Q):GoL env Try.f110 0 [.code oE] [(0,x0)] H Q:=⟨fun g=>bt (by have h:=h g;rw [Bs] at h;exact h)⟩
def lG (g:Nat→AV) (x7 x2 x5 x6:AV) (H:Heap) (Q:AV→Heap→Prop):Prop :=
 doQ (qBin env.P .lss 3 (.tmp 7) (.tmp 6) (some x7) (some x6)) fun v1 =>
 br (some v1) (
 doQ (az env.P (Heap.get H) 68 (some x5) (some x7)) fun v2 =>
 doQ (an env.P (Heap.get H) 5 (some v2)) fun v3 =>
 doQ (qBin env.P .shl 3 (.tmp 11) (.const (.int .u64 8)) (some x2) (some (.v (.int .u64 8)))) fun v4 =>
 doQ (aN env.P (Heap.get H) (⟨0,14,Heap.gen H 0 14,0⟩:Ref) 5 3 (some v3)) fun v5 =>
 doQ (qBin env.P .or 3 (.tmp 12) (.tmp 14) (some v4) (some v5)) fun v6 =>
 doQ (qBin env.P .add 3 (.tmp 7) (.const (.int .i64 1)) (some x7) (some (.v (.int .i64 1)))) fun v7 =>
  GoL env Try.f110 0 jD [(7,v7),(2,v6),(5,x5),(6,x6)] H Q) (
 Q x2 H)
theorem ya:lG=fun g x7 x2 x5 x6 H Q=>wp env Try.f110 none 0 vm vI Q 500 (gC jD) (ofL g [(7,x7),(2,x2),(5,x5),(6,x6)]) H:=by kernel_rfl
theorem rD (x7 x2 x5 x6:AV) (H:Heap) (Q:AV→Heap→Prop) (h : ∀g,lG g x7 x2 x5 x6 H Q):GoL env Try.f110 0 jD [(7,x7),(2,x2),(5,x5),(6,x6)] H Q:=dJ fun g=>bt (by have h:=h g;rw [ya] at h;exact h)
noncomputable def mK:Code:=(Try.f94.body).getD .skip
def Ax:Nat→Option (List Nat):=fun i=>none
def AT:Nat→Bool:=fun i=>false
def mN (g:Nat→AV) (x0:AV) (H:Heap) (Q:AV→Heap→Prop):Prop :=
 doW (nRes H (⟨0,2,Heap.gen H 0 2,0⟩:Ref) (cB env.P (⟨0,2,Heap.gen H 0 2,0⟩:Ref) 162)) fun v1 H1 =>
 doQ (az env.P (Heap.get H1) 68 (some x0) (some (.v (.int .i64 0)))) fun v2 =>
 doQ (an env.P (Heap.get H1) 5 (some v2)) fun v3 =>
 doQ (bM env.P (Heap.get H1) 68 (some x0) (oi (.v (.int .i64 1))) (oi (.v (.int .i64 5))) (some none)) fun v4 =>
 doW (ak env false (limf env) (limt env 0) H1 (⟨0,9,Heap.gen H1 0 9,0⟩:Ref) (some (.fn (.func 110) [] [])) [v4]) fun v5 H2 =>
 doQ (aN env.P (Heap.get H2) (⟨0,10,Heap.gen H2 0 10,0⟩:Ref) 3 31 (some v5)) fun v6 =>
 doQ (bG env.P 33 (some [(0,v3),(1,v6)])) fun v7 =>
 doQ (az env.P (Heap.get H2) 68 (some x0) (some (.v (.int .i64 5)))) fun v8 =>
 doQ (an env.P (Heap.get H2) 5 (some v8)) fun v9 =>
 doQ (bG env.P 35 (some [(0,v7),(1,v9)])) fun v10 =>
 doQ (bG env.P 162 (some [(0,v10)])) fun v11 =>
 doW (nRes H2 (⟨0,3,Heap.gen H2 0 3,0⟩:Ref) (cB env.P (⟨0,3,Heap.gen H2 0 3,0⟩:Ref) 162)) fun v12 H3 =>
 doW (ay env.P H3 162 (some v12) (some v11)) fun v13 H4 =>
 doQ (ab env.P 162 (some v12) 0) fun v14 =>
 doQ (an env.P (Heap.get H4) 35 (some v14)) fun v15 =>
 doW (ak env true (limf env) (limt env 0) H4 (⟨0,19,Heap.gen H4 0 19,0⟩:Ref) (some (.fn (.func 71) [] [])) [v15]) fun v16 H5 =>
 doQ (ab env.P 162 (some v12) 1) fun v17 =>
 doW (ay env.P H5 25 (some v17) (some v16)) fun v18 H6 =>
 doQ (an env.P (Heap.get H6) 162 (some v12)) fun v19 =>
 doW (ay env.P H6 162 (some v1) (some v19)) fun v20 H7 =>
 doQ (aG env.P H7 v1 162) fun v21 =>
 Q v21 H7
theorem zN:mN=fun g x0 H Q=>wp env Try.f94 none 0 Ax AT Q 500 [.code mK] (ofL g [(0,x0)]) H:=by kernel_rfl
theorem s9 (x0:AV) (H:Heap) (Q:AV→Heap→Prop) (h : ∀g,mN g x0 H Q):GoL env Try.f94 0 [.code mK] [(0,x0)] H Q:=⟨fun g=>bt (by have h:=h g;rw [zN] at h;exact h)⟩
noncomputable def k7:Code:=(Try.f81.body).getD .skip
def tU:Nat→Option (List Nat):=fun i=>none
def tZ:Nat→Bool:=fun i=>false
def k9 (g:Nat→AV) (x0:AV) (H:Heap) (Q:AV→Heap→Prop):Prop :=
 doW (nRes H (⟨0,2,Heap.gen H 0 2,0⟩:Ref) (cB env.P (⟨0,2,Heap.gen H 0 2,0⟩:Ref) 35)) fun v1 H1 =>
 doQ (ax env.P false (Heap.get H1) (⟨0,6,Heap.gen H1 0 6,0⟩:Ref) .len #[68] [x0]) fun v2 =>
 doQ (qBin env.P .neq 3 (.tmp 6) (.const (.int .i64 6)) (some v2) (some (.v (.int .i64 6)))) fun v3 =>
 br (some v3) (
 doQ (bG env.P 35 (some [])) fun v4 =>
 doW (ay env.P H1 35 (some v1) (some v4)) fun v5 H2 =>
 doQ (aG env.P H2 v1 35) fun v6 =>
 Q (.tup [v6,(.v (.int .i64 8))]) H2) (
 doW (ak env true (limf env) (limt env 0) H1 (⟨0,10,Heap.gen H1 0 10,0⟩:Ref) (some (.fn (.func 94) [] [])) [x0]) fun v4 H2 =>
 doW (nRes H2 (⟨0,4,Heap.gen H2 0 4,0⟩:Ref) (cB env.P (⟨0,4,Heap.gen H2 0 4,0⟩:Ref) 162)) fun v5 H3 =>
 doW (ay env.P H3 162 (some v5) (some v4)) fun v6 H4 =>
 doQ (ab env.P 162 (some v5) 1) fun v7 =>
 doQ (an env.P (Heap.get H4) 25 (some v7)) fun v8 =>
 doQ (qBin env.P .neq 25 (.tmp 12) (.const (.int .i64 0)) (some v8) (some (.v (.int .i64 0)))) fun v9 =>
 br (some v9) (
 doQ (bG env.P 35 (some [])) fun v10 =>
 doQ (ab env.P 162 (some v5) 1) fun v11 =>
 doQ (an env.P (Heap.get H4) 25 (some v11)) fun v12 =>
 doW (ay env.P H4 35 (some v1) (some v10)) fun v13 H5 =>
  nP [(v11,v1)] [v1] [] H5 ∧
 (doQ (aG env.P H5 v1 35) fun v14 =>
 Q (.tup [v14,v12]) H5)) (
 doQ (ab env.P 162 (some v5) 0) fun v10 =>
 doQ (an env.P (Heap.get H4) 35 (some v10)) fun v11 =>
 doW (ay env.P H4 35 (some v1) (some v11)) fun v12 H5 =>
 doQ (aG env.P H5 v1 35) fun v13 =>
 Q (.tup [v13,(.v (.int .i64 0))]) H5))
theorem tI:k9=fun g x0 H Q=>wp env Try.f81 none 0 tU tZ Q 500 [.code k7] (ofL g [(0,x0)]) H:=by kernel_rfl
theorem tM (x0:AV) (H:Heap) (Q:AV→Heap→Prop) (h : ∀g,k9 g x0 H Q):GoL env Try.f81 0 [.code k7] [(0,x0)] H Q:=⟨fun g=>bt (by have h:=h g;rw [tI] at h;exact h)⟩
noncomputable def sU:Code:=(Try.f111.body).getD .skip
def EB:Nat→Option (List Nat):=fun i=>none
def ET:Nat→Bool:=fun i=>false
def sZ (g:Nat→AV) (x0:AV) (H:Heap) (Q:AV→Heap→Prop):Prop :=
 doW (nRes H (⟨0,2,Heap.gen H 0 2,0⟩:Ref) (cB env.P (⟨0,2,Heap.gen H 0 2,0⟩:Ref) 37)) fun v1 H1 =>
 doQ (ax env.P false (Heap.get H1) (⟨0,7,Heap.gen H1 0 7,0⟩:Ref) .len #[68] [x0]) fun v2 =>
 doQ (qBin env.P .neq 3 (.tmp 7) (.const (.int .i64 13)) (some v2) (some (.v (.int .i64 13)))) fun v3 =>
 br (some v3) (
 doQ (bG env.P 37 (some [])) fun v4 =>
 doW (ay env.P H1 37 (some v1) (some v4)) fun v5 H2 =>
 doQ (aG env.P H2 v1 37) fun v6 =>
 Q (.tup [v6,(.v (.int .i64 8))]) H2) (
 doW (ak env false (limf env) (limt env 0) H1 (⟨0,11,Heap.gen H1 0 11,0⟩:Ref) (some (.fn (.func 94) [] [])) [x0]) fun v4 H2 =>
 doQ (qA env.P 162 (some v4) 0) fun v5 =>
 doQ (bM env.P (Heap.get H2) 68 (some x0) (oi (.v (.int .i64 6))) (some none) (some none)) fun v6 =>
 doW (ak env false (limf env) (limt env 0) H2 (⟨0,15,Heap.gen H2 0 15,0⟩:Ref) (some (.fn (.func 110) [] [])) [v6]) fun v7 H3 =>
 doQ (bG env.P 37 (some [(0,v5),(1,v7)])) fun v8 =>
 doW (nRes H3 (⟨0,4,Heap.gen H3 0 4,0⟩:Ref) (cB env.P (⟨0,4,Heap.gen H3 0 4,0⟩:Ref) 37)) fun v9 H4 =>
 doW (ay env.P H4 37 (some v9) (some v8)) fun v10 H5 =>
 doQ (an env.P (Heap.get H5) 37 (some v9)) fun v11 =>
 doW (ak env true (limf env) (limt env 0) H5 (⟨0,18,Heap.gen H5 0 18,0⟩:Ref) (some (.fn (.func 88) [] [])) [v11]) fun v12 H6 =>
 doQ (qBin env.P .neq 25 (.tmp 19) (.const (.int .i64 0)) (some v12) (some (.v (.int .i64 0)))) fun v13 =>
 br (some v13) (
 doQ (bG env.P 37 (some [])) fun v14 =>
 doW (ay env.P H6 37 (some v1) (some v14)) fun v15 H7 =>
 doQ (aG env.P H7 v1 37) fun v16 =>
 Q (.tup [v16,v12]) H7) (
 doQ (an env.P (Heap.get H6) 37 (some v9)) fun v14 =>
 doW (ay env.P H6 37 (some v1) (some v14)) fun v15 H7 =>
 doQ (aG env.P H7 v1 37) fun v16 =>
 Q (.tup [v16,(.v (.int .i64 0))]) H7))
theorem D6:sZ=fun g x0 H Q=>wp env Try.f111 none 0 EB ET Q 500 [.code sU] (ofL g [(0,x0)]) H:=by kernel_rfl
theorem D9 (x0:AV) (H:Heap) (Q:AV→Heap→Prop) (h : ∀g,sZ g x0 H Q):GoL env Try.f111 0 [.code sU] [(0,x0)] H Q:=⟨fun g=>bt (by have h:=h g;rw [D6] at h;exact h)⟩
noncomputable def k6:Code:=(Try.f53.body).getD .skip
def tT:Nat→Option (List Nat):=fun i=>none
def tY:Nat→Bool:=fun i=>false
def iX (g:Nat→AV) (x0:AV) (H:Heap) (Q:AV→Heap→Prop):Prop :=
 doW (nRes H (⟨0,1,Heap.gen H 0 1,0⟩:Ref) (qBox env.P (⟨0,1,Heap.gen H 0 1,0⟩:Ref) 35 (some x0))) fun v1 H1 =>
 doQ (an env.P (Heap.get H1) 35 (some v1)) fun v2 =>
 doW (ak env true (limf env) (limt env 0) H1 (⟨0,6,Heap.gen H1 0 6,0⟩:Ref) (some (.fn (.func 71) [] [])) [v2]) fun v3 H2 =>
 doQ (qBin env.P .neq 25 (.tmp 7) (.const (.int .i64 0)) (some v3) (some (.v (.int .i64 0)))) fun v4 =>
 br (some v4) (
 Q (.tup [(.v (.slice none 0 0)),v3]) H2) (
 doQ (ab env.P 35 (some v1) 0) fun v5 =>
 doQ (ab env.P 33 (some v5) 0) fun v6 =>
 doQ (an env.P (Heap.get H2) 5 (some v6)) fun v7 =>
 doW (gq env.P true false H2 (⟨0,13,Heap.gen H2 0 13,0⟩:Ref) 68 1 (some [(0,v7)])) fun v8 H3 =>
 doQ (ab env.P 35 (some v1) 0) fun v9 =>
 doQ (ab env.P 33 (some v9) 1) fun v10 =>
 doQ (an env.P (Heap.get H3) 31 (some v10)) fun v11 =>
 doQ (aN env.P (Heap.get H3) (⟨0,17,Heap.gen H3 0 17,0⟩:Ref) 31 3 (some v11)) fun v12 =>
 doW (ak env false (limf env) (limt env 0) H3 (⟨0,18,Heap.gen H3 0 18,0⟩:Ref) (some (.fn (.func 72) [] [])) [v12,(.v (.int .i64 4))]) fun v13 H4 =>
 doW (bN env.P false H4 (⟨0,19,Heap.gen H4 0 19,0⟩:Ref) (some 68) (some 68) v8 v13) fun v14 H5 =>
 doQ (ab env.P 35 (some v1) 1) fun v15 =>
 doQ (an env.P (Heap.get H5) 5 (some v15)) fun v16 =>
 doW (gq env.P true false H5 (⟨0,22,Heap.gen H5 0 22,0⟩:Ref) 68 1 (some [(0,v16)])) fun v17 H6 =>
 doW (bN env.P true H6 (⟨0,23,Heap.gen H6 0 23,0⟩:Ref) (some 68) (some 68) v14 v17) fun v18 H7 =>
 Q (.tup [v18,(.v (.int .i64 0))]) H7)
theorem tH:iX=fun g x0 H Q=>wp env Try.f53 none 0 tT tY Q 500 [.code k6] (ofL g [(0,x0)]) H:=by kernel_rfl
theorem tL (x0:AV) (H:Heap) (Q:AV→Heap→Prop) (h : ∀g,iX g x0 H Q):GoL env Try.f53 0 [.code k6] [(0,x0)] H Q:=⟨fun g=>bt (by have h:=h g;rw [tH] at h;exact h)⟩
noncomputable def sT:Code:=(Try.f74.body).getD .skip
def Ez:Nat→Option (List Nat):=fun i=>none
def ES:Nat→Bool:=fun i=>false
def qb (g:Nat→AV) (x0:AV) (H:Heap) (Q:AV→Heap→Prop):Prop :=
 doW (nRes H (⟨0,1,Heap.gen H 0 1,0⟩:Ref) (qBox env.P (⟨0,1,Heap.gen H 0 1,0⟩:Ref) 37 (some x0))) fun v1 H1 =>
 doQ (an env.P (Heap.get H1) 37 (some v1)) fun v2 =>
 doW (ak env true (limf env) (limt env 0) H1 (⟨0,8,Heap.gen H1 0 8,0⟩:Ref) (some (.fn (.func 88) [] [])) [v2]) fun v3 H2 =>
 doQ (qBin env.P .neq 25 (.tmp 9) (.const (.int .i64 0)) (some v3) (some (.v (.int .i64 0)))) fun v4 =>
 br (some v4) (
 Q (.tup [(.v (.slice none 0 0)),v3]) H2) (
 doQ (ab env.P 37 (some v1) 0) fun v5 =>
 doQ (an env.P (Heap.get H2) 35 (some v5)) fun v6 =>
 doW (ak env true (limf env) (limt env 0) H2 (⟨0,15,Heap.gen H2 0 15,0⟩:Ref) (some (.fn (.func 53) [] [])) [v6]) fun v7 H3 =>
 doQ (au (some v7) 0) fun v8 =>
 doQ (au (some v7) 1) fun v9 =>
 doQ (ab env.P 37 (some v1) 1) fun v10 =>
 doQ (an env.P (Heap.get H3) 3 (some v10)) fun v11 =>
 doW (ak env true (limf env) (limt env 0) H3 (⟨0,21,Heap.gen H3 0 21,0⟩:Ref) (some (.fn (.func 72) [] [])) [v11,(.v (.int .i64 7))]) fun v12 H4 =>
 doW (bN env.P true H4 (⟨0,22,Heap.gen H4 0 22,0⟩:Ref) (some 68) (some 68) v8 v12) fun v13 H5 =>
 Q (.tup [v13,v9]) H5)
theorem D5:qb=fun g x0 H Q=>wp env Try.f74 none 0 Ez ES Q 500 [.code sT] (ofL g [(0,x0)]) H:=by kernel_rfl
theorem D8 (x0:AV) (H:Heap) (Q:AV→Heap→Prop) (h : ∀g,qb g x0 H Q):GoL env Try.f74 0 [.code sT] [(0,x0)] H Q:=⟨fun g=>bt (by have h:=h g;rw [D5] at h;exact h)⟩
noncomputable def oG:Code:=(Try.f9.body).getD .skip
def zd:Nat→Option (List Nat):=fun i=>none
def zu:Nat→Bool:=fun i=>false
def ik (g:Nat→AV) (x0 x1:AV) (H:Heap) (Q:AV→Heap→Prop):Prop :=
 doW (nRes H (⟨0,2,Heap.gen H 0 2,0⟩:Ref) (qBox env.P (⟨0,2,Heap.gen H 0 2,0⟩:Ref) 24 (some x0))) fun v1 H1 =>
 doW (nRes H1 (⟨0,4,Heap.gen H1 0 4,0⟩:Ref) (cB env.P (⟨0,4,Heap.gen H1 0 4,0⟩:Ref) 24)) fun v2 H2 =>
 doQ (an env.P (Heap.get H2) 24 (some v1)) fun v3 =>
 doW (ak env true (limf env) (limt env 0) H2 (⟨0,8,Heap.gen H2 0 8,0⟩:Ref) (some (.fn (.func 29) [] [])) [v3]) fun v4 H3 =>
 doQ (qBin env.P .neq 25 (.tmp 9) (.const (.int .i64 0)) (some v4) (some (.v (.int .i64 0)))) fun v5 =>
 br (some v5) (
 doQ (bG env.P 24 (some [])) fun v6 =>
 doW (ay env.P H3 24 (some v2) (some v6)) fun v7 H4 =>
 doQ (aG env.P H4 v2 24) fun v8 =>
 Q (.tup [v8,v4]) H4) (
 doQ (qBin env.P .lss 3 (.tmp 14) (.const (.int .i64 (-1))) (some x1) (some (.v (.int .i64 (-1))))) fun v6 =>
 gQ v6 false (qVal (some x1)) fun v7 =>
 gQ v6 false (qBin env.P .geq 3 (.tmp 17) (.const (.int .i64 2147483648)) (some v7) (some (.v (.int .i64 2147483648)))) fun v8 =>
 doQ (bg (some v6) (some (.v (.bool true))) (some v8)) fun v9 =>
 br (some v9) (
 doQ (bG env.P 24 (some [])) fun v10 =>
 doW (ay env.P H3 24 (some v2) (some v10)) fun v11 H4 =>
 doQ (aG env.P H4 v2 24) fun v12 =>
 Q (.tup [v12,(.v (.int .i64 2))]) H4) (
 doQ (ab env.P 24 (some v1) 1) fun v10 =>
 doQ (an env.P (Heap.get H3) 3 (some v10)) fun v11 =>
 doQ (qBin env.P .add 3 (.tmp 23) (.const (.int .i64 1)) (some v11) (some (.v (.int .i64 1)))) fun v12 =>
 doQ (qBin env.P .geq 3 (.tmp 24) (.const (.int .i64 2147483648)) (some v12) (some (.v (.int .i64 2147483648)))) fun v13 =>
 br (some v13) (
 doQ (bG env.P 24 (some [])) fun v14 =>
 doW (ay env.P H3 24 (some v2) (some v14)) fun v15 H4 =>
 doQ (aG env.P H4 v2 24) fun v16 =>
 Q (.tup [v16,(.v (.int .i64 9))]) H4) (
 doQ (an env.P (Heap.get H3) 24 (some v1)) fun v14 =>
 doW (ak env true (limf env) (limt env 0) H3 (⟨0,28,Heap.gen H3 0 28,0⟩:Ref) (some (.fn (.func 30) [] [])) [v14]) fun v15 H4 =>
 doW (ay env.P H4 24 (some v1) (some v15)) fun v16 H5 =>
 doQ (ab env.P 24 (some v1) 1) fun v17 =>
 doQ (an env.P (Heap.get H5) 3 (some v17)) fun v18 =>
 doQ (qBin env.P .add 3 (.tmp 30) (.const (.int .i64 1)) (some v18) (some (.v (.int .i64 1)))) fun v19 =>
 doQ (ab env.P 24 (some v1) 1) fun v20 =>
 doW (ay env.P H5 3 (some v20) (some v19)) fun v21 H6 =>
 doQ (ab env.P 24 (some v1) 2) fun v22 =>
 doW (ay env.P H6 3 (some v22) (some x1)) fun v23 H7 =>
 doQ (ab env.P 24 (some v1) 3) fun v24 =>
 doW (ay env.P H7 4 (some v24) (some (.v (.bool false)))) fun v25 H8 =>
 doQ (an env.P (Heap.get H8) 24 (some v1)) fun v26 =>
 doW (ay env.P H8 24 (some v2) (some v26)) fun v27 H9 =>
 doQ (aG env.P H9 v2 24) fun v28 =>
 Q (.tup [v28,(.v (.int .i64 0))]) H9)))
theorem ye:ik=fun g x0 x1 H Q=>wp env Try.f9 none 0 zd zu Q 500 [.code oG] (ofL g [(0,x0),(1,x1)]) H:=by kernel_rfl
theorem yv (x0 x1:AV) (H:Heap) (Q:AV→Heap→Prop) (h : ∀g,ik g x0 x1 H Q):GoL env Try.f9 0 [.code oG] [(0,x0),(1,x1)] H Q:=⟨fun g=>bt (by have h:=h g;rw [ye] at h;exact h)⟩
noncomputable def rf:Code:=(Try.f10.body).getD .skip
def Ck:Nat→Option (List Nat):=fun i=>none
def CL:Nat→Bool:=fun i=>false
def rm (g:Nat→AV) (H:Heap) (Q:AV→Heap→Prop):Prop :=
 doW (nRes H (⟨0,0,Heap.gen H 0 0,0⟩:Ref) (cB env.P (⟨0,0,Heap.gen H 0 0,0⟩:Ref) 24)) fun v1 H1 =>
 doQ (bG env.P 24 (some [(2,(.v (.int .i64 (-1))))])) fun v2 =>
 doW (ay env.P H1 24 (some v1) (some v2)) fun v3 H2 =>
 doQ (aG env.P H2 v1 24) fun v4 =>
 Q v4 H2
theorem Bu:rm=fun g  H Q=>wp env Try.f10 none 0 Ck CL Q 500 [.code rf] (ofL g []) H:=by kernel_rfl
theorem BD (H:Heap) (Q:AV→Heap→Prop) (h : ∀g,rm g  H Q):GoL env Try.f10 0 [.code rf] [] H Q:=⟨fun g=>bt (by have h:=h g;rw [Bu] at h;exact h)⟩
noncomputable def lC:Code:=(Try.f27.body).getD .skip
def zb:Nat→Option (List Nat):=fun i=>none
def zt:Nat→Bool:=fun i=>false
def dw (g:Nat→AV) (x0 x1 x2:AV) (H:Heap) (Q:AV→Heap→Prop):Prop :=
 doW (nRes H (⟨0,3,Heap.gen H 0 3,0⟩:Ref) (qBox env.P (⟨0,3,Heap.gen H 0 3,0⟩:Ref) 24 (some x0))) fun v1 H1 =>
 doW (nRes H1 (⟨0,6,Heap.gen H1 0 6,0⟩:Ref) (cB env.P (⟨0,6,Heap.gen H1 0 6,0⟩:Ref) 24)) fun v2 H2 =>
 doQ (an env.P (Heap.get H2) 24 (some v1)) fun v3 =>
 doW (ak env true (limf env) (limt env 0) H2 (⟨0,13,Heap.gen H2 0 13,0⟩:Ref) (some (.fn (.func 40) [] [])) [v3,x1]) fun v4 H3 =>
 doQ (qBin env.P .neq 25 (.tmp 14) (.const (.int .i64 0)) (some v4) (some (.v (.int .i64 0)))) fun v5 =>
 br (some v5) (
 doQ (bG env.P 24 (some [])) fun v6 =>
 doW (ay env.P H3 24 (some v2) (some v6)) fun v7 H4 =>
 doQ (aG env.P H4 v2 24) fun v8 =>
 Q (.tup [v8,v4]) H4) (
 doQ (ax env.P false (Heap.get H3) (⟨0,19,Heap.gen H3 0 19,0⟩:Ref) .len #[68] [x2]) fun v6 =>
 doQ (qBin env.P .neq 3 (.tmp 19) (.const (.int .i64 128)) (some v6) (some (.v (.int .i64 128)))) fun v7 =>
 br (some v7) (
 doQ (bG env.P 24 (some [])) fun v8 =>
 doW (ay env.P H3 24 (some v2) (some v8)) fun v9 H4 =>
 doQ (aG env.P H4 v2 24) fun v10 =>
 Q (.tup [v10,(.v (.int .i64 2))]) H4) (
 doQ (an env.P (Heap.get H3) 24 (some v1)) fun v8 =>
 doW (ak env true (limf env) (limt env 0) H3 (⟨0,23,Heap.gen H3 0 23,0⟩:Ref) (some (.fn (.func 30) [] [])) [v8]) fun v9 H4 =>
 doW (ay env.P H4 24 (some v1) (some v9)) fun v10 H5 =>
 doQ (ab env.P 24 (some v1) 3) fun v11 =>
 doQ (an env.P (Heap.get H5) 4 (some v11)) fun v12 =>
 gQ v12 false (ab env.P 24 (some v1) 2) fun v13 =>
 gQ v12 false (an env.P (Heap.get H5) 3 (some v13)) fun v14 =>
 gQ v12 false (qBin env.P .eql 3 (.tmp 29) (.const (.int .i64 0)) (some v14) (some (.v (.int .i64 0)))) fun v15 =>
 doQ (bg (some v12) (some (.v (.bool true))) (some v15)) fun v16 =>
 br (some v16) (
 doQ (ab env.P 24 (some v1) 3) fun v17 =>
 doW (ay env.P H5 4 (some v17) (some (.v (.bool true)))) fun v18 H6 =>
 doQ (an env.P (Heap.get H6) 24 (some v1)) fun v19 =>
 doW (ay env.P H6 24 (some v2) (some v19)) fun v20 H7 =>
 doQ (aG env.P H7 v2 24) fun v21 =>
 Q (.tup [v21,(.v (.int .i64 0))]) H7) (
 doQ (ab env.P 24 (some v1) 2) fun v17 =>
 doQ (an env.P (Heap.get H5) 3 (some v17)) fun v18 =>
 doQ (qBin env.P .gtr 3 (.tmp 36) (.const (.int .i64 0)) (some v18) (some (.v (.int .i64 0)))) fun v19 =>
 br (some v19) (
 doQ (ab env.P 24 (some v1) 2) fun v20 =>
 doQ (an env.P (Heap.get H5) 3 (some v20)) fun v21 =>
 doQ (qBin env.P .sub 3 (.tmp 39) (.const (.int .i64 1)) (some v21) (some (.v (.int .i64 1)))) fun v22 =>
 doQ (ab env.P 24 (some v1) 2) fun v23 =>
 doW (ay env.P H5 3 (some v23) (some v22)) fun v24 H6 =>
 doQ (an env.P (Heap.get H6) 24 (some v1)) fun v25 =>
 doW (ak env true (limf env) (limt env 0) H6 (⟨0,45,Heap.gen H6 0 45,0⟩:Ref) (some (.fn (.func 41) [] [])) [v25,x1]) fun v26 H7 =>
 doQ (au (some v26) 0) fun v27 =>
 doQ (au (some v26) 1) fun v28 =>
 doQ (qUn env.P .not (some v28)) fun v29 =>
 br (some v29) (
 doQ (ab env.P 24 (some v1) 0) fun v30 =>
 doQ (an env.P (Heap.get H7) 22 (some v30)) fun v31 =>
 doQ (bG env.P 94 (some [(0,x1)])) fun v32 =>
 doW (gq env.P false true H7 (⟨0,55,Heap.gen H7 0 55,0⟩:Ref) 22 1 (some [(0,v32)])) fun v33 H8 =>
 doW (ak env true (limf env) (limt env 0) H8 (⟨0,56,Heap.gen H8 0 56,0⟩:Ref) (some (.fn (.func 42) [] [])) [v31,v27,v33]) fun v34 H9 =>
 doQ (ab env.P 24 (some v1) 0) fun v35 =>
 doW (ay env.P H9 22 (some v35) (some v34)) fun v36 H10 =>
 doQ (ab env.P 24 (some v1) 0) fun v37 =>
 doQ (an env.P (Heap.get H10) 22 (some v37)) fun v38 =>
 doW (ak env false (limf env) (limt env 0) H10 (⟨0,62,Heap.gen H10 0 62,0⟩:Ref) (some (.fn (.func 43) [] [])) [x2]) fun v39 H11 =>
 doQ (az env.P (Heap.get H11) 22 (some v38) (some v27)) fun v40 =>
 doQ (ab env.P 94 (some v40) 1) fun v41 =>
 doW (ay env.P H11 68 (some v41) (some v39)) fun v42 H12 =>
 doQ (an env.P (Heap.get H12) 24 (some v1)) fun v43 =>
 doW (ay env.P H12 24 (some v2) (some v43)) fun v44 H13 =>
 doQ (aG env.P H13 v2 24) fun v45 =>
 Q (.tup [v45,(.v (.int .i64 0))]) H13) (
 doQ (ab env.P 24 (some v1) 0) fun v30 =>
 doQ (an env.P (Heap.get H7) 22 (some v30)) fun v31 =>
 doW (ak env false (limf env) (limt env 0) H7 (⟨0,62,Heap.gen H7 0 62,0⟩:Ref) (some (.fn (.func 43) [] [])) [x2]) fun v32 H8 =>
 doQ (az env.P (Heap.get H8) 22 (some v31) (some v27)) fun v33 =>
 doQ (ab env.P 94 (some v33) 1) fun v34 =>
 doW (ay env.P H8 68 (some v34) (some v32)) fun v35 H9 =>
 doQ (an env.P (Heap.get H9) 24 (some v1)) fun v36 =>
 doW (ay env.P H9 24 (some v2) (some v36)) fun v37 H10 =>
 doQ (aG env.P H10 v2 24) fun v38 =>
 Q (.tup [v38,(.v (.int .i64 0))]) H10)) (
 doQ (an env.P (Heap.get H5) 24 (some v1)) fun v20 =>
 doW (ak env true (limf env) (limt env 0) H5 (⟨0,45,Heap.gen H5 0 45,0⟩:Ref) (some (.fn (.func 41) [] [])) [v20,x1]) fun v21 H6 =>
 doQ (au (some v21) 0) fun v22 =>
 doQ (au (some v21) 1) fun v23 =>
 doQ (qUn env.P .not (some v23)) fun v24 =>
 br (some v24) (
 doQ (ab env.P 24 (some v1) 0) fun v25 =>
 doQ (an env.P (Heap.get H6) 22 (some v25)) fun v26 =>
 doQ (bG env.P 94 (some [(0,x1)])) fun v27 =>
 doW (gq env.P false true H6 (⟨0,55,Heap.gen H6 0 55,0⟩:Ref) 22 1 (some [(0,v27)])) fun v28 H7 =>
 doW (ak env true (limf env) (limt env 0) H7 (⟨0,56,Heap.gen H7 0 56,0⟩:Ref) (some (.fn (.func 42) [] [])) [v26,v22,v28]) fun v29 H8 =>
 doQ (ab env.P 24 (some v1) 0) fun v30 =>
 doW (ay env.P H8 22 (some v30) (some v29)) fun v31 H9 =>
 doQ (ab env.P 24 (some v1) 0) fun v32 =>
 doQ (an env.P (Heap.get H9) 22 (some v32)) fun v33 =>
 doW (ak env false (limf env) (limt env 0) H9 (⟨0,62,Heap.gen H9 0 62,0⟩:Ref) (some (.fn (.func 43) [] [])) [x2]) fun v34 H10 =>
 doQ (az env.P (Heap.get H10) 22 (some v33) (some v22)) fun v35 =>
 doQ (ab env.P 94 (some v35) 1) fun v36 =>
 doW (ay env.P H10 68 (some v36) (some v34)) fun v37 H11 =>
 doQ (an env.P (Heap.get H11) 24 (some v1)) fun v38 =>
 doW (ay env.P H11 24 (some v2) (some v38)) fun v39 H12 =>
 doQ (aG env.P H12 v2 24) fun v40 =>
 Q (.tup [v40,(.v (.int .i64 0))]) H12) (
 doQ (ab env.P 24 (some v1) 0) fun v25 =>
 doQ (an env.P (Heap.get H6) 22 (some v25)) fun v26 =>
 doW (ak env false (limf env) (limt env 0) H6 (⟨0,62,Heap.gen H6 0 62,0⟩:Ref) (some (.fn (.func 43) [] [])) [x2]) fun v27 H7 =>
 doQ (az env.P (Heap.get H7) 22 (some v26) (some v22)) fun v28 =>
 doQ (ab env.P 94 (some v28) 1) fun v29 =>
 doW (ay env.P H7 68 (some v29) (some v27)) fun v30 H8 =>
 doQ (an env.P (Heap.get H8) 24 (some v1)) fun v31 =>
 doW (ay env.P H8 24 (some v2) (some v31)) fun v32 H9 =>
 doQ (aG env.P H9 v2 24) fun v33 =>
 Q (.tup [v33,(.v (.int .i64 0))]) H9)))))
theorem yd:dw=fun g x0 x1 x2 H Q=>wp env Try.f27 none 0 zb zt Q 500 [.code lC] (ofL g [(0,x0),(1,x1),(2,x2)]) H:=by kernel_rfl
theorem rG (x0 x1 x2:AV) (H:Heap) (Q:AV→Heap→Prop) (h : ∀g,dw g x0 x1 x2 H Q):GoL env Try.f27 0 [.code lC] [(0,x0),(1,x1),(2,x2)] H Q:=⟨fun g=>bt (by have h:=h g;rw [yd] at h;exact h)⟩
noncomputable def lD:Code:=(Try.f29.body).getD .skip
noncomputable def hU:List Item:=(cx 3 400 [.code lD]).getD []
def r8:Nat→Option (List Nat):=fun i=>cond (Nat.beq i 3) (some [9,3,7,1,8]) (none)
def sh:Nat→Bool:=fun i=>false
def oN (g:Nat→AV) (x0:AV) (H:Heap) (Q:AV→Heap→Prop):Prop :=
 doW (nRes H (⟨0,1,Heap.gen H 0 1,0⟩:Ref) (qBox env.P (⟨0,1,Heap.gen H 0 1,0⟩:Ref) 24 (some x0))) fun v1 H1 =>
 doQ (ab env.P 24 (some v1) 0) fun v2 =>
 doQ (an env.P (Heap.get H1) 22 (some v2)) fun v3 =>
 doQ (ax env.P false (Heap.get H1) (⟨0,8,Heap.gen H1 0 8,0⟩:Ref) .len #[22] [v3]) fun v4 =>
  GoL env Try.f29 0 hU [(9,(.v (.int .i64 0))),(3,(.v (.int .i64 (-1)))),(7,v3),(1,v1),(8,v4)] H1 Q
theorem yf:oN=fun g x0 H Q=>wp env Try.f29 none 0 r8 sh Q 500 [.code lD] (ofL g [(0,x0)]) H:=by kernel_rfl
theorem yw (x0:AV) (H:Heap) (Q:AV→Heap→Prop) (h : ∀g,oN g x0 H Q):GoL env Try.f29 0 [.code lD] [(0,x0)] H Q:=⟨fun g=>bt (by have h:=h g;rw [yf] at h;exact h)⟩
def jR (g:Nat→AV) (x9 x3 x7 x1 x8:AV) (H:Heap) (Q:AV→Heap→Prop):Prop :=
 doQ (qBin env.P .lss 3 (.tmp 9) (.tmp 8) (some x9) (some x8)) fun v1 =>
 br (some v1) (
 doQ (az env.P (Heap.get H) 22 (some x7) (some x9)) fun v2 =>
 doQ (an env.P (Heap.get H) 94 (some v2)) fun v3 =>
 doW (nRes H (⟨0,5,Heap.gen H 0 5,0⟩:Ref) (cB env.P (⟨0,5,Heap.gen H 0 5,0⟩:Ref) 94)) fun v4 H1 =>
 doW (ay env.P H1 94 (some v4) (some v3)) fun v5 H2 =>
 doQ (ab env.P 94 (some v4) 0) fun v6 =>
 doQ (an env.P (Heap.get H2) 3 (some v6)) fun v7 =>
 doQ (qBin env.P .leq 3 (.tmp 14) (.tmp 15) (some v7) (some x3)) fun v8 =>
 gQ v8 false (ab env.P 94 (some v4) 0) fun v9 =>
 gQ v8 false (an env.P (Heap.get H2) 3 (some v9)) fun v10 =>
 gQ v8 false (qBin env.P .geq 3 (.tmp 19) (.const (.int .i64 6146)) (some v10) (some (.v (.int .i64 6146)))) fun v11 =>
 doQ (bg (some v8) (some (.v (.bool true))) (some v11)) fun v12 =>
 gQ v12 false (ab env.P 94 (some v4) 1) fun v13 =>
 gQ v12 false (an env.P (Heap.get H2) 68 (some v13)) fun v14 =>
 gQ v12 false (ax env.P false (Heap.get H2) (⟨0,25,Heap.gen H2 0 25,0⟩:Ref) .len #[68] [v14]) fun v15 =>
 gQ v12 false (qBin env.P .neq 3 (.tmp 25) (.const (.int .i64 128)) (some v15) (some (.v (.int .i64 128)))) fun v16 =>
 doQ (bg (some v12) (some (.v (.bool true))) (some v16)) fun v17 =>
 br (some v17) (
 Q (.v (.int .i64 8)) H2) (
 doQ (ab env.P 94 (some v4) 0) fun v18 =>
 doQ (an env.P (Heap.get H2) 3 (some v18)) fun v19 =>
 doQ (qBin env.P .add 3 (.tmp 9) (.const (.int .i64 1)) (some x9) (some (.v (.int .i64 1)))) fun v20 =>
  GoL env Try.f29 0 hU [(9,v20),(3,v19),(7,x7),(1,x1),(8,x8)] H2 Q)) (
 doQ (ab env.P 24 (some x1) 1) fun v2 =>
 doQ (an env.P (Heap.get H) 3 (some v2)) fun v3 =>
 doQ (qBin env.P .lss 3 (.tmp 32) (.const (.int .i64 0)) (some v3) (some (.v (.int .i64 0)))) fun v4 =>
 gQ v4 false (ab env.P 24 (some x1) 1) fun v5 =>
 gQ v4 false (an env.P (Heap.get H) 3 (some v5)) fun v6 =>
 gQ v4 false (qBin env.P .geq 3 (.tmp 36) (.const (.int .i64 2147483648)) (some v6) (some (.v (.int .i64 2147483648)))) fun v7 =>
 doQ (bg (some v4) (some (.v (.bool true))) (some v7)) fun v8 =>
 gQ v8 false (ab env.P 24 (some x1) 2) fun v9 =>
 gQ v8 false (an env.P (Heap.get H) 3 (some v9)) fun v10 =>
 gQ v8 false (qBin env.P .lss 3 (.tmp 41) (.const (.int .i64 (-1))) (some v10) (some (.v (.int .i64 (-1))))) fun v11 =>
 doQ (bg (some v8) (some (.v (.bool true))) (some v11)) fun v12 =>
 gQ v12 false (ab env.P 24 (some x1) 2) fun v13 =>
 gQ v12 false (an env.P (Heap.get H) 3 (some v13)) fun v14 =>
 gQ v12 false (qBin env.P .geq 3 (.tmp 46) (.const (.int .i64 2147483648)) (some v14) (some (.v (.int .i64 2147483648)))) fun v15 =>
 doQ (bg (some v12) (some (.v (.bool true))) (some v15)) fun v16 =>
 gQ v16 false (ab env.P 24 (some x1) 3) fun v17 =>
 gQ v16 false (an env.P (Heap.get H) 4 (some v17)) fun v18 =>
 gQ v16 false (qVal (some v18)) fun v19 =>
 gQ v19 true (ab env.P 24 (some x1) 2) fun v20 =>
 gQ v19 true (an env.P (Heap.get H) 3 (some v20)) fun v21 =>
 gQ v19 true (qBin env.P .neq 3 (.tmp 54) (.const (.int .i64 0)) (some v21) (some (.v (.int .i64 0)))) fun v22 =>
 gQ v16 false (bg (some v19) (some v22) (some (.v (.bool false)))) fun v23 =>
 doQ (bg (some v16) (some (.v (.bool true))) (some v23)) fun v24 =>
 br (some v24) (
 Q (.v (.int .i64 8)) H) (
 Q (.v (.int .i64 0)) H))
theorem uH:jR=fun g x9 x3 x7 x1 x8 H Q=>wp env Try.f29 none 0 r8 sh Q 500 (gC hU) (ofL g [(9,x9),(3,x3),(7,x7),(1,x1),(8,x8)]) H:=by kernel_rfl
theorem pf (x9 x3 x7 x1 x8:AV) (H:Heap) (Q:AV→Heap→Prop) (h : ∀g,jR g x9 x3 x7 x1 x8 H Q):GoL env Try.f29 0 hU [(9,x9),(3,x3),(7,x7),(1,x1),(8,x8)] H Q:=dJ fun g=>bt (by have h:=h g;rw [uH] at h;exact h)
noncomputable def mL:Code:=(Try.f30.body).getD .skip
noncomputable def iM:List Item:=(cx 3 400 [.code mL]).getD []
def tl:Nat→Option (List Nat):=fun i=>cond (Nat.beq i 3) (some [10,3,2,1,9]) (none)
def tz:Nat→Bool:=fun i=>false
def kN (g:Nat→AV) (x0:AV) (H:Heap) (Q:AV→Heap→Prop):Prop :=
 doW (nRes H (⟨0,1,Heap.gen H 0 1,0⟩:Ref) (qBox env.P (⟨0,1,Heap.gen H 0 1,0⟩:Ref) 24 (some x0))) fun v1 H1 =>
 doW (nRes H1 (⟨0,2,Heap.gen H1 0 2,0⟩:Ref) (cB env.P (⟨0,2,Heap.gen H1 0 2,0⟩:Ref) 24)) fun v2 H2 =>
 doQ (ab env.P 24 (some v1) 0) fun v3 =>
 doQ (an env.P (Heap.get H2) 22 (some v3)) fun v4 =>
 doW (ak env true (limf env) (limt env 0) H2 (⟨0,7,Heap.gen H2 0 7,0⟩:Ref) (some (.fn (.func 44) [] [])) [v4]) fun v5 H3 =>
 doQ (ax env.P false (Heap.get H3) (⟨0,9,Heap.gen H3 0 9,0⟩:Ref) .len #[22] [v5]) fun v6 =>
  GoL env Try.f30 0 iM [(10,(.v (.int .i64 0))),(3,v5),(2,v2),(1,v1),(9,v6)] H3 Q
theorem zS:kN=fun g x0 H Q=>wp env Try.f30 none 0 tl tz Q 500 [.code mL] (ofL g [(0,x0)]) H:=by kernel_rfl
theorem z3 (x0:AV) (H:Heap) (Q:AV→Heap→Prop) (h : ∀g,kN g x0 H Q):GoL env Try.f30 0 [.code mL] [(0,x0)] H Q:=⟨fun g=>bt (by have h:=h g;rw [zS] at h;exact h)⟩
def gG (g:Nat→AV) (x10 x3 x2 x1 x9:AV) (H:Heap) (Q:AV→Heap→Prop):Prop :=
 doQ (qBin env.P .lss 3 (.tmp 10) (.tmp 9) (some x10) (some x9)) fun v1 =>
 br (some v1) (
 doQ (az env.P (Heap.get H) 22 (some x3) (some x10)) fun v2 =>
 doQ (ab env.P 94 (some v2) 1) fun v3 =>
 doQ (an env.P (Heap.get H) 68 (some v3)) fun v4 =>
 doW (ak env true (limf env) (limt env 0) H (⟨0,20,Heap.gen H 0 20,0⟩:Ref) (some (.fn (.func 43) [] [])) [v4]) fun v5 H1 =>
 doQ (az env.P (Heap.get H1) 22 (some x3) (some x10)) fun v6 =>
 doQ (ab env.P 94 (some v6) 1) fun v7 =>
 doW (ay env.P H1 68 (some v7) (some v5)) fun v8 H2 =>
 doQ (qBin env.P .add 3 (.tmp 10) (.const (.int .i64 1)) (some x10) (some (.v (.int .i64 1)))) fun v9 =>
  GoL env Try.f30 0 iM [(10,v9),(3,x3),(2,x2),(1,x1),(9,x9)] H2 Q) (
 doQ (ab env.P 24 (some x1) 0) fun v2 =>
 doW (ay env.P H 22 (some v2) (some x3)) fun v3 H1 =>
 doQ (an env.P (Heap.get H1) 24 (some x1)) fun v4 =>
 doW (ay env.P H1 24 (some x2) (some v4)) fun v5 H2 =>
 doQ (aG env.P H2 x2 24) fun v6 =>
 Q v6 H2)
theorem wh:gG=fun g x10 x3 x2 x1 x9 H Q=>wp env Try.f30 none 0 tl tz Q 500 (gC iM) (ofL g [(10,x10),(3,x3),(2,x2),(1,x1),(9,x9)]) H:=by kernel_rfl
theorem ke (x10 x3 x2 x1 x9:AV) (H:Heap) (Q:AV→Heap→Prop) (h : ∀g,gG g x10 x3 x2 x1 x9 H Q):GoL env Try.f30 0 iM [(10,x10),(3,x3),(2,x2),(1,x1),(9,x9)] H Q:=dJ fun g=>bt (by have h:=h g;rw [wh] at h;exact h)
noncomputable def oF:Code:=(Try.f40.body).getD .skip
def za:Nat→Option (List Nat):=fun i=>none
def zr:Nat→Bool:=fun i=>false
def lI (g:Nat→AV) (x0 x1:AV) (H:Heap) (Q:AV→Heap→Prop):Prop :=
 doW (nRes H (⟨0,2,Heap.gen H 0 2,0⟩:Ref) (qBox env.P (⟨0,2,Heap.gen H 0 2,0⟩:Ref) 24 (some x0))) fun v1 H1 =>
 doQ (an env.P (Heap.get H1) 24 (some v1)) fun v2 =>
 doW (ak env true (limf env) (limt env 0) H1 (⟨0,7,Heap.gen H1 0 7,0⟩:Ref) (some (.fn (.func 29) [] [])) [v2]) fun v3 H2 =>
 doQ (qBin env.P .neq 25 (.tmp 8) (.const (.int .i64 0)) (some v3) (some (.v (.int .i64 0)))) fun v4 =>
 br (some v4) (
 Q v3 H2) (
 doQ (qBin env.P .lss 3 (.tmp 11) (.const (.int .i64 0)) (some x1) (some (.v (.int .i64 0)))) fun v5 =>
 gQ v5 false (qVal (some x1)) fun v6 =>
 gQ v5 false (qBin env.P .geq 3 (.tmp 14) (.const (.int .i64 6146)) (some v6) (some (.v (.int .i64 6146)))) fun v7 =>
 doQ (bg (some v5) (some (.v (.bool true))) (some v7)) fun v8 =>
 br (some v8) (
 Q (.v (.int .i64 2)) H2) (
 Q (.v (.int .i64 0)) H2))
theorem yc:lI=fun g x0 x1 H Q=>wp env Try.f40 none 0 za zr Q 500 [.code oF] (ofL g [(0,x0),(1,x1)]) H:=by kernel_rfl
theorem yu (x0 x1:AV) (H:Heap) (Q:AV→Heap→Prop) (h : ∀g,lI g x0 x1 H Q):GoL env Try.f40 0 [.code oF] [(0,x0),(1,x1)] H Q:=⟨fun g=>bt (by have h:=h g;rw [yc] at h;exact h)⟩
noncomputable def pG:Code:=(Try.f41.body).getD .skip
def AB:Nat→Option (List Nat):=fun i=>none
def AY:Nat→Bool:=fun i=>false
def pN (g:Nat→AV) (x0 x1:AV) (H:Heap) (Q:AV→Heap→Prop):Prop :=
 doW (nRes H (⟨0,2,Heap.gen H 0 2,0⟩:Ref) (qBox env.P (⟨0,2,Heap.gen H 0 2,0⟩:Ref) 24 (some x0))) fun v1 H1 =>
 doQ (ab env.P 24 (some v1) 0) fun v2 =>
 doQ (an env.P (Heap.get H1) 22 (some v2)) fun v3 =>
 doW (ak env true (limf env) (limt env 0) H1 (⟨0,9,Heap.gen H1 0 9,0⟩:Ref) (some (.fn (.func 59) [] [])) [v3,x1,(.fn (.func 60) [] [])]) fun v4 H2 =>
 doQ (au (some v4) 0) fun v5 =>
 doQ (au (some v4) 1) fun v6 =>
 Q (.tup [v5,v6]) H2
theorem zR:pN=fun g x0 x1 H Q=>wp env Try.f41 none 0 AB AY Q 500 [.code pG] (ofL g [(0,x0),(1,x1)]) H:=by kernel_rfl
theorem z1 (x0 x1:AV) (H:Heap) (Q:AV→Heap→Prop) (h : ∀g,pN g x0 x1 H Q):GoL env Try.f41 0 [.code pG] [(0,x0),(1,x1)] H Q:=⟨fun g=>bt (by have h:=h g;rw [zR] at h;exact h)⟩
noncomputable def re:Code:=(Try.f43.body).getD .skip
def Cj:Nat→Option (List Nat):=fun i=>none
def CK:Nat→Bool:=fun i=>false
def rl (g:Nat→AV) (x0:AV) (H:Heap) (Q:AV→Heap→Prop):Prop :=
 doQ (ax env.P false (Heap.get H) (⟨0,5,Heap.gen H 0 5,0⟩:Ref) .len #[68] [x0]) fun v1 =>
 doW (nRes H (⟨0,6,Heap.gen H 0 6,0⟩:Ref) (qR env.P (⟨0,6,Heap.gen H 0 6,0⟩:Ref) 68 (some v1) (some v1))) fun v2 H1 =>
 doW (sq env.P H1 (some 68) v2 x0) fun v3 H2 =>
 Q v2 H2
theorem Bt:rl=fun g x0 H Q=>wp env Try.f43 none 0 Cj CK Q 500 [.code re] (ofL g [(0,x0)]) H:=by kernel_rfl
theorem BC (x0:AV) (H:Heap) (Q:AV→Heap→Prop) (h : ∀g,rl g x0 H Q):GoL env Try.f43 0 [.code re] [(0,x0)] H Q:=⟨fun g=>bt (by have h:=h g;rw [Bt] at h;exact h)⟩
noncomputable def aL:Code:=(Try.f44.body).getD .skip
def dT:Nat→Option (List Nat):=fun i=>none
def dU:Nat→Bool:=fun i=>false
def aM (g:Nat→AV) (x0:AV) (H:Heap) (Q:AV→Heap→Prop):Prop :=
 doQ (qBin env.P .eql 22 (.tmp 3) (.const (.slice none 0 0)) (some x0) (some (.v (.slice none 0 0)))) fun v1 =>
 br (some v1) (
 Q (.v (.slice none 0 0)) H) (
 doW (gq env.P false true H (⟨0,5,Heap.gen H 0 5,0⟩:Ref) 22 0 (some [])) fun v2 H1 =>
 doW (bN env.P true H1 (⟨0,7,Heap.gen H1 0 7,0⟩:Ref) (some 22) (some 22) v2 x0) fun v3 H2 =>
 Q v3 H2)
theorem dS:aM=fun g x0 H Q=>wp env Try.f44 none 0 dT dU Q 500 [.code aL] (ofL g [(0,x0)]) H:=by kernel_rfl
theorem bn (x0:AV) (H:Heap) (Q:AV→Heap→Prop) (h : ∀g,aM g x0 H Q):GoL env Try.f44 0 [.code aL] [(0,x0)] H Q:=⟨fun g=>bt (by have h:=h g;rw [dS] at h;exact h)⟩
noncomputable def pH:Code:=(Try.f49.body).getD .skip
def AD:Nat→Option (List Nat):=fun i=>none
def AZ:Nat→Bool:=fun i=>false
def ji (g:Nat→AV) (x0 x1:AV) (H:Heap) (Q:AV→Heap→Prop):Prop :=
 doW (nRes H (⟨0,2,Heap.gen H 0 2,0⟩:Ref) (qBox env.P (⟨0,2,Heap.gen H 0 2,0⟩:Ref) 24 (some x0))) fun v1 H1 =>
 doQ (an env.P (Heap.get H1) 24 (some v1)) fun v2 =>
 doW (ak env true (limf env) (limt env 0) H1 (⟨0,11,Heap.gen H1 0 11,0⟩:Ref) (some (.fn (.func 40) [] [])) [v2,x1]) fun v3 H2 =>
 doQ (qBin env.P .neq 25 (.tmp 12) (.const (.int .i64 0)) (some v3) (some (.v (.int .i64 0)))) fun v4 =>
 br (some v4) (
 Q (.tup [(.v (.slice none 0 0)),v3]) H2) (
 doQ (an env.P (Heap.get H2) 24 (some v1)) fun v5 =>
 doW (ak env true (limf env) (limt env 0) H2 (⟨0,18,Heap.gen H2 0 18,0⟩:Ref) (some (.fn (.func 41) [] [])) [v5,x1]) fun v6 H3 =>
 doQ (au (some v6) 0) fun v7 =>
 doQ (au (some v6) 1) fun v8 =>
 doQ (qUn env.P .not (some v8)) fun v9 =>
 br (some v9) (
 doW (nRes H3 (⟨0,23,Heap.gen H3 0 23,0⟩:Ref) (qR env.P (⟨0,23,Heap.gen H3 0 23,0⟩:Ref) 68 (some (.v (.int .i64 128))) (some (.v (.int .i64 128))))) fun v10 H4 =>
 Q (.tup [v10,(.v (.int .i64 0))]) H4) (
 doQ (ab env.P 24 (some v1) 0) fun v10 =>
 doQ (an env.P (Heap.get H3) 22 (some v10)) fun v11 =>
 doQ (az env.P (Heap.get H3) 22 (some v11) (some v7)) fun v12 =>
 doQ (ab env.P 94 (some v12) 1) fun v13 =>
 doQ (an env.P (Heap.get H3) 68 (some v13)) fun v14 =>
 doW (ak env true (limf env) (limt env 0) H3 (⟨0,30,Heap.gen H3 0 30,0⟩:Ref) (some (.fn (.func 43) [] [])) [v14]) fun v15 H4 =>
 Q (.tup [v15,(.v (.int .i64 0))]) H4))
theorem zT:ji=fun g x0 x1 H Q=>wp env Try.f49 none 0 AD AZ Q 500 [.code pH] (ofL g [(0,x0),(1,x1)]) H:=by kernel_rfl
theorem z4 (x0 x1:AV) (H:Heap) (Q:AV→Heap→Prop) (h : ∀g,ji g x0 x1 H Q):GoL env Try.f49 0 [.code pH] [(0,x0),(1,x1)] H Q:=⟨fun g=>bt (by have h:=h g;rw [zT] at h;exact h)⟩
noncomputable def aJ:Code:=(Try.f59.body).getD .skip
noncomputable def aw:List Item:=(cx 3 400 [.code aJ]).getD []
def bw:Nat→Option (List Nat):=fun i=>cond (Nat.beq i 3) (some [1,0,2,10,9,8]) (none)
def bx:Nat→Bool:=fun i=>false
def aX (g:Nat→AV) (x0 x1 x2:AV) (H:Heap) (Q:AV→Heap→Prop):Prop :=
 doQ (ax env.P false (Heap.get H) (⟨0,13,Heap.gen H 0 13,0⟩:Ref) .len #[22] [x0]) fun v1 =>
  GoL env Try.f59 0 aw [(1,x1),(0,x0),(2,x2),(10,v1),(9,(.v (.int .i64 0))),(8,v1)] H Q
theorem cR:aX=fun g x0 x1 x2 H Q=>wp env Try.f59 none 0 bw bx Q 500 [.code aJ] (ofL g [(0,x0),(1,x1),(2,x2)]) H:=by kernel_rfl
theorem cS (x0 x1 x2:AV) (H:Heap) (Q:AV→Heap→Prop) (h : ∀g,aX g x0 x1 x2 H Q):GoL env Try.f59 0 [.code aJ] [(0,x0),(1,x1),(2,x2)] H Q:=⟨fun g=>bt (by have h:=h g;rw [cR] at h;exact h)⟩
def aC (g:Nat→AV) (x1 x0 x2 x10 x9 x8:AV) (H:Heap) (Q:AV→Heap→Prop):Prop :=
 doQ (qBin env.P .lss 3 (.tmp 15) (.tmp 16) (some x9) (some x10)) fun v1 =>
 br (some v1) (
 doQ (qBin env.P .add 3 (.tmp 18) (.tmp 19) (some x9) (some x10)) fun v2 =>
 doQ (aN env.P (Heap.get H) (⟨0,21,Heap.gen H 0 21,0⟩:Ref) 3 119 (some v2)) fun v3 =>
 doQ (qBin env.P .shr 119 (.tmp 21) (.const (.int .u64 1)) (some v3) (some (.v (.int .u64 1)))) fun v4 =>
 doQ (aN env.P (Heap.get H) (⟨0,23,Heap.gen H 0 23,0⟩:Ref) 119 3 (some v4)) fun v5 =>
 doQ (az env.P (Heap.get H) 22 (some x0) (some v5)) fun v6 =>
 doQ (an env.P (Heap.get H) 94 (some v6)) fun v7 =>
 doW (ak env true (limf env) (limt env 0) H (⟨0,30,Heap.gen H 0 30,0⟩:Ref) (some x2) [v7,x1]) fun v8 H1 =>
 doQ (qBin env.P .lss 3 (.tmp 30) (.const (.int .i64 0)) (some v8) (some (.v (.int .i64 0)))) fun v9 =>
 br (some v9) (
 doQ (qBin env.P .add 3 (.tmp 32) (.const (.int .i64 1)) (some v5) (some (.v (.int .i64 1)))) fun v10 =>
  GoL env Try.f59 0 aw [(1,x1),(0,x0),(2,x2),(10,x10),(9,v10),(8,x8)] H1 Q) (
  GoL env Try.f59 0 aw [(1,x1),(0,x0),(2,x2),(10,v5),(9,x9),(8,x8)] H1 Q)) (
 doQ (qBin env.P .lss 3 (.tmp 36) (.tmp 37) (some x9) (some x8)) fun v2 =>
 gQ v2 true (qVal (some x2)) fun v3 =>
 gQ v2 true (qVal (some x0)) fun v4 =>
 gQ v2 true (qVal (some x9)) fun v5 =>
 gQ v2 true (az env.P (Heap.get H) 22 (some v4) (some v5)) fun v6 =>
 gQ v2 true (an env.P (Heap.get H) 94 (some v6)) fun v7 =>
 gQ v2 true (qVal (some x1)) fun v8 =>
 gW v2 true H (ak env true (limf env) (limt env 0) H (⟨0,46,Heap.gen H 0 46,0⟩:Ref) (some v3) [v7,v8]) fun v9 H1 =>
 gQ v2 true (qBin env.P .eql 3 (.tmp 46) (.const (.int .i64 0)) (some v9) (some (.v (.int .i64 0)))) fun v10 =>
 doQ (bg (some v2) (some v10) (some (.v (.bool false)))) fun v11 =>
 Q (.tup [x9,v11]) H1)
theorem cJ:aC=fun g x1 x0 x2 x10 x9 x8 H Q=>wp env Try.f59 none 0 bw bx Q 500 (gC aw) (ofL g [(1,x1),(0,x0),(2,x2),(10,x10),(9,x9),(8,x8)]) H:=by kernel_rfl
theorem bu (x1 x0 x2 x10 x9 x8:AV) (H:Heap) (Q:AV→Heap→Prop) (h : ∀g,aC g x1 x0 x2 x10 x9 x8 H Q):GoL env Try.f59 0 aw [(1,x1),(0,x0),(2,x2),(10,x10),(9,x9),(8,x8)] H Q:=dJ fun g=>bt (by have h:=h g;rw [cJ] at h;exact h)
noncomputable def nd:Code:=(Try.f60.body).getD .skip
def wN:Nat→Option (List Nat):=fun i=>none
def wZ:Nat→Bool:=fun i=>false
def nm (g:Nat→AV) (x0 x1:AV) (H:Heap) (Q:AV→Heap→Prop):Prop :=
 doW (nRes H (⟨0,2,Heap.gen H 0 2,0⟩:Ref) (qBox env.P (⟨0,2,Heap.gen H 0 2,0⟩:Ref) 94 (some x0))) fun v1 H1 =>
 doQ (ab env.P 94 (some v1) 0) fun v2 =>
 doQ (an env.P (Heap.get H1) 3 (some v2)) fun v3 =>
 doW (ak env true (limf env) (limt env 0) H1 (⟨0,8,Heap.gen H1 0 8,0⟩:Ref) (some (.fn (.func 61) [] [])) [v3,x1]) fun v4 H2 =>
 Q v4 H2
theorem wg:nm=fun g x0 x1 H Q=>wp env Try.f60 none 0 wN wZ Q 500 [.code nd] (ofL g [(0,x0),(1,x1)]) H:=by kernel_rfl
theorem wA (x0 x1:AV) (H:Heap) (Q:AV→Heap→Prop) (h : ∀g,nm g x0 x1 H Q):GoL env Try.f60 0 [.code nd] [(0,x0),(1,x1)] H Q:=⟨fun g=>bt (by have h:=h g;rw [wg] at h;exact h)⟩
noncomputable def je:Code:=(Try.f61.body).getD .skip
def qU:Nat→Option (List Nat):=fun i=>none
def qZ:Nat→Bool:=fun i=>false
def jf (g:Nat→AV) (x0 x1:AV) (H:Heap) (Q:AV→Heap→Prop):Prop :=
 doW (ak env true (limf env) (limt env 0) H (⟨0,8,Heap.gen H 0 8,0⟩:Ref) (some (.fn (.func 79) [] [])) [x0]) fun v1 H1 =>
 doW (ak env true (limf env) (limt env 0) H1 (⟨0,10,Heap.gen H1 0 10,0⟩:Ref) (some (.fn (.func 79) [] [])) [x1]) fun v2 H2 =>
 br (some v1) (
 br (some v2) (
 Q (.v (.int .i64 0)) H2) (
 Q (.v (.int .i64 (-1))) H2)) (
 br (some v2) (
 Q (.v (.int .i64 1)) H2) (
 doQ (qBin env.P .lss 3 (.tmp 14) (.tmp 15) (some x0) (some x1)) fun v3 =>
 br (some v3) (
 Q (.v (.int .i64 (-1))) H2) (
 doQ (qBin env.P .gtr 3 (.tmp 17) (.tmp 18) (some x0) (some x1)) fun v4 =>
 br (some v4) (
 Q (.v (.int .i64 1)) H2) (
 Q (.v (.int .i64 0)) H2))))
theorem qG:jf=fun g x0 x1 H Q=>wp env Try.f61 none 0 qU qZ Q 500 [.code je] (ofL g [(0,x0),(1,x1)]) H:=by kernel_rfl
theorem qJ (x0 x1:AV) (H:Heap) (Q:AV→Heap→Prop) (h : ∀g,jf g x0 x1 H Q):GoL env Try.f61 0 [.code je] [(0,x0),(1,x1)] H Q:=⟨fun g=>bt (by have h:=h g;rw [qG] at h;exact h)⟩
noncomputable def j9:Code:=(Try.f79.body).getD .skip
def sL:Nat→Option (List Nat):=fun i=>none
def sP:Nat→Bool:=fun i=>false
def kb (g:Nat→AV) (x0:AV) (H:Heap) (Q:AV→Heap→Prop):Prop :=
 doQ (qBin env.P .neq 3 (.tmp 3) (.tmp 4) (some x0) (some x0)) fun v1 =>
 Q v1 H
theorem su:kb=fun g x0 H Q=>wp env Try.f79 none 0 sL sP Q 500 [.code j9] (ofL g [(0,x0)]) H:=by kernel_rfl
theorem sv (x0:AV) (H:Heap) (Q:AV→Heap→Prop) (h : ∀g,kb g x0 H Q):GoL env Try.f79 0 [.code j9] [(0,x0)] H Q:=⟨fun g=>bt (by have h:=h g;rw [su] at h;exact h)⟩
end Go.Proofs.Ytmjkpdknicjjgaa
