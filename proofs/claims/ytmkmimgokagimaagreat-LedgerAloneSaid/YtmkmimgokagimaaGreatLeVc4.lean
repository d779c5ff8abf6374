/-
  What is to be shown of each function, computed from its code. No statement of a seat is proved here.
-/
import Derived.Test.YtmkmimgokagimaaGreatLeTy
set_option linter.unusedVariables false
set_option maxRecDepth 1000000
namespace Go.Proofs.YtmkmimgokagimaaGreat
open Go.Ab
noncomputable def ga:Code:=(Tryz.f21.body).getD .skip
noncomputable def dH:List Item:=(bL 4 400 [.code ga]).getD []
def jD:Nat→Option (List Nat):=fun i=>cond (Nat.beq i 4) (some [5,1,0]) (none)
def jF:Nat→Bool:=fun i=>false
def jG(g:Nat→AV)(x0 x1:AV)(H:Heap)(Q:AV→Heap→Prop):Prop :=
 doQ (Zh H 7 41 x0) fun v1 =>
 doQ (Zh H 9 41 x1) fun v2 =>
 doQ (Zv 3 7 9 v1 v2) fun v3 =>
 br (some v3) (
 Q (.v (.bool false)) H) (
  GoL env Tryz.f21 0 dH [(5,(.v (.int .i64 0))),(1,x1),(0,x0)] H Q)
theorem n8(x0 x1:AV)(H:Heap)(Q:AV→Heap→Prop)(h : ∀g,jG g x0 x1 H Q):GoL env Tryz.f21 0 [.code ga] [(0,x0),(1,x1)] H Q:=⟨fun g=>aH (live:=jD) (cut:=jF) (n:=500) (Eq.mp (by kernel_rfl) (h g))⟩
def fy(g:Nat→AV)(x5 x1 x0:AV)(H:Heap)(Q:AV→Heap→Prop):Prop :=
 doQ (Zh H 13 41 x0) fun v1 =>
 doQ (Zp 3 11 13 x5 v1) fun v2 =>
 br (some v2) (
 doQ (Zu H 41 x0 x5) fun v3 =>
 doQ (Zb H 38 v3) fun v4 =>
 doQ (Zu H 41 x1 x5) fun v5 =>
 doQ (Zb H 38 v5) fun v6 =>
 doW (Za false H 25 62 [v4,v6]) fun v7 H1 =>
 doQ (ZE v7) fun v8 =>
 br (some v8) (
 Q (.v (.bool false)) H1) (
 doQ (Zf 3 15 1 x5) fun v9 =>
  GoL env Tryz.f21 0 dH [(5,v9),(1,x1),(0,x0)] H1 Q)) (
 Q (.v (.bool true)) H)
theorem iJ(x5 x1 x0:AV)(H:Heap)(Q:AV→Heap→Prop)(h : ∀g,fy g x5 x1 x0 H Q):GoL env Tryz.f21 0 dH [(5,x5),(1,x1),(0,x0)] H Q:=cU fun g=>aH (live:=jD) (cut:=jF) (n:=500) (Eq.mp (by kernel_rfl) (h g))
end Go.Proofs.YtmkmimgokagimaaGreat
