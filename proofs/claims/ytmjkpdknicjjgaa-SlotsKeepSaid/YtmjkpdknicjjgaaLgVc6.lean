/-
  What is to be shown of each function, computed from its code. No statement of a seat is proved here.
-/
import Derived.Test.YtmjkpdknicjjgaaLgTy
set_option linter.unusedVariables false
set_option maxRecDepth 1000000
namespace Go.Proofs.Ytmjkpdknicjjgaa
open Go.Ab
noncomputable def mc:Code:=(Try.f33.body).getD .skip
noncomputable def fe:List Item:=(gT 10008 400 [.code mc]).getD []
noncomputable def aU:Code:=rfA fe
noncomputable def aT:Code:=rfB fe
noncomputable def jn:List Item:=rfK fe
def o3:Nat→Option (List Nat):=fun i=>cond (Nat.beq i 10008) (some [34,6,10,5,4]) (none)
def pd:Nat→Bool:=fun i=>false
def j5 (g:Nat→AV) (x0 x1 x2:AV) (H:Heap) (Q:AV→Heap→Prop):Prop :=
 doW (nRes H (⟨0,3,Heap.gen H 0 3,0⟩:Ref) (qBox env.P (⟨0,3,Heap.gen H 0 3,0⟩:Ref) 48 (some x0))) fun v1 H1 =>
 doW (nRes H1 (⟨0,4,Heap.gen H1 0 4,0⟩:Ref) (qBox env.P (⟨0,4,Heap.gen H1 0 4,0⟩:Ref) 3 (some x1))) fun v2 H2 =>
 doW (nRes H2 (⟨0,5,Heap.gen H2 0 5,0⟩:Ref) (qBox env.P (⟨0,5,Heap.gen H2 0 5,0⟩:Ref) 3 (some x2))) fun v3 H3 =>
 doW (nRes H3 (⟨0,6,Heap.gen H3 0 6,0⟩:Ref) (bO env.P (⟨0,6,Heap.gen H3 0 6,0⟩:Ref) 79)) fun v4 H4 =>
 doQ (an env.P (Heap.get H4) 48 (some v1)) fun v5 =>
 doQ (bu env.P 87 (some [(0,v5)])) fun v6 =>
 doW (ak env true (limf env) (limt env 0) H4 (⟨0,17,Heap.gen H4 0 17,0⟩:Ref) (some (.fn (.func 36) [] [])) [v6]) fun v7 H5 =>
 doQ (ao (some v7) 0) fun v8 =>
 doQ (ao (some v7) 1) fun v9 =>
 doQ (qUn env.P .not (some v9)) fun v10 =>
 br (some v10) (
 doW (aw env.P H5 79 (some v4) (some (.v (.slice none 0 0)))) fun v11 H6 =>
 doQ (aE env.P H6 v4 79) fun v12 =>
 Q (.tup [v12,(.v (.int .i64 8))]) H6) (
 doQ (an env.P (Heap.get H5) 48 (some v1)) fun v11 =>
 doW (ak env true (limf env) (limt env 0) H5 (⟨0,24,Heap.gen H5 0 24,0⟩:Ref) (some (.fn (.func 20) [] [])) [v11]) fun v12 H6 =>
 doQ (ao (some v12) 0) fun v13 =>
 doQ (ao (some v12) 1) fun v14 =>
 doW (nRes H6 (⟨0,10,Heap.gen H6 0 10,0⟩:Ref) (bO env.P (⟨0,10,Heap.gen H6 0 10,0⟩:Ref) 3)) fun v15 H7 =>
 doW (aw env.P H7 3 (some v15) (some v13)) fun v16 H8 =>
 doQ (an env.P (Heap.get H8) 3 (some v2)) fun v17 =>
 doQ (an env.P (Heap.get H8) 3 (some v3)) fun v18 =>
 doQ (an env.P (Heap.get H8) 3 (some v15)) fun v19 =>
 doQ (bu env.P 103 (some [(0,v17),(1,v18),(3,v19)])) fun v20 =>
 doW (ak env true (limf env) (limt env 0) H8 (⟨0,31,Heap.gen H8 0 31,0⟩:Ref) (some (.fn (.func 45) [] [])) [v20]) fun v21 H9 =>
 doQ (qUn env.P .not (some v21)) fun v22 =>
 br (some v22) (
 doW (aw env.P H9 79 (some v4) (some (.v (.slice none 0 0)))) fun v23 H10 =>
 doQ (aE env.P H10 v4 79) fun v24 =>
 Q (.tup [v24,(.v (.int .i64 2))]) H10) (
 doW (ak env true (limf env) (limt env 0) H9 (⟨0,34,Heap.gen H9 0 34,0⟩:Ref) (some (.fn (.func 46) [] [])) [v8,(.v (.int .i64 119))]) fun v23 H10 =>
  GoL env Try.f33 0 fe [(34,v23),(6,v4),(10,v15),(5,v3),(4,v2)] H10 Q))
theorem za:j5=fun g x0 x1 x2 H Q=>wp env Try.f33 none 0 o3 pd Q 500 [.code mc] (ofL g [(0,x0),(1,x1),(2,x2)]) H:=by kernel_rfl
theorem zx (x0 x1 x2:AV) (H:Heap) (Q:AV→Heap→Prop) (h : ∀g,j5 g x0 x1 x2 H Q):GoL env Try.f33 0 [.code mc] [(0,x0),(1,x1),(2,x2)] H Q:=⟨fun g=>bg (by have h:=h g;rw [za] at h;exact h)⟩
def iL (g:Nat→AV) (x6:AV) (H:Heap) (Q:AV→Heap→Prop):Prop :=
 doQ (an env.P (Heap.get H) 79 (some x6)) fun v1 =>
 doW (aw env.P H 79 (some x6) (some v1)) fun v2 H1 =>
 doQ (aE env.P H1 x6 79) fun v3 =>
 Q (.tup [v3,(.v (.int .i64 0))]) H1
theorem q5:iL=fun g x6 H Q=>wp env Try.f33 none 0 o3 pd Q 500 jn (ofL g [(6,x6)]) H:=by kernel_rfl
theorem q9 (x6:AV) (H:Heap) (Q:AV→Heap→Prop) (h : ∀g,iL g x6 H Q):GoL env Try.f33 0 jn [(6,x6)] H Q:=⟨fun g=>bg (by have h:=h g;rw [q5] at h;exact h)⟩
def ej (r:Ref) (g:Nat→AV) (x6 x10 x5 x4 x35:AV) (H:Heap) (Q:AV→Heap→Prop):Prop :=
 bgP (lpAt H r) fun i1 =>
 doQ (an env.P (Heap.get (Heap.put H r (some (ee 1 i1)))) 3 (some x4)) fun v2 =>
 doW (ak env false (limf env) (limt env 2) (Heap.put H r (some (ee 1 i1))) (⟨2,37,Heap.gen (Heap.put H r (some (ee 1 i1))) 2 37,0⟩:Ref) (some (.fn (.func 48) [] [])) [v2,(.v (.int .i64 4))]) fun v3 H1 =>
 doQ (an env.P (Heap.get H1) 3 (some x5)) fun v4 =>
 doW (ak env false (limf env) (limt env 2) H1 (⟨2,39,Heap.gen H1 2 39,0⟩:Ref) (some (.fn (.func 48) [] [])) [v4,(.v (.int .i64 3))]) fun v5 H2 =>
 doQ (an env.P (Heap.get H2) 79 (some x6)) fun v6 =>
 doQ (ay env.P false (Heap.get H2) (⟨2,41,Heap.gen H2 2 41,0⟩:Ref) .len #[79] [v6]) fun v7 =>
 doQ (aJ env.P (Heap.get H2) (⟨2,42,Heap.gen H2 2 42,0⟩:Ref) 3 5 (some v7)) fun v8 =>
 doQ (an env.P (Heap.get H2) 3 (some x10)) fun v9 =>
 doQ (aJ env.P (Heap.get H2) (⟨2,44,Heap.gen H2 2 44,0⟩:Ref) 3 5 (some v9)) fun v10 =>
 doW (fX env.P true false H2 (⟨2,45,Heap.gen H2 2 45,0⟩:Ref) 68 2 (some [(0,v8),(1,v10)])) fun v11 H3 =>
 doW (fX env.P true false H3 (⟨2,47,Heap.gen H3 2 47,0⟩:Ref) 79 4 (some [(0,v3),(1,v5),(2,v11),(3,x35)])) fun v12 H4 =>
 doW (ak env false (limf env) (limt env 2) H4 (⟨2,48,Heap.gen H4 2 48,0⟩:Ref) (some (.fn (.func 47) [] [])) [v12]) fun v13 H5 =>
 doQ (an env.P (Heap.get H5) 79 (some x6)) fun v14 =>
 doQ (ay env.P false (Heap.get H5) (⟨2,52,Heap.gen H5 2 52,0⟩:Ref) .len #[68] [v13]) fun v15 =>
 doQ (qBin env.P .sub 3 (.const (.int .i64 128)) (.tmp 52) (some (.v (.int .i64 128))) (some v15)) fun v16 =>
 doW (bQ env.P true H5 (⟨2,54,Heap.gen H5 2 54,0⟩:Ref) (some 68) (some 3) v13 v16) fun v17 H6 =>
 doW (fX env.P true true H6 (⟨2,55,Heap.gen H6 2 55,0⟩:Ref) 79 1 (some [(0,v17)])) fun v18 H7 =>
 doW (bQ env.P true H7 (⟨2,56,Heap.gen H7 2 56,0⟩:Ref) (some 79) (some 79) v14 v18) fun v19 H8 =>
 doW (aw env.P H8 79 (some x6) (some v19)) fun v20 H9 =>
  oJ [(x6,v13),(x6,v17)] [x6] [v17] H9 ∧
 (Q (.v (.int .i64 0)) H9)
theorem ru (r:Ref):ej r=fun g x6 x10 x5 x4 x35 H Q=>wp env Try.f33 (some r) 2 o3 pd Q 500 [.code aU,.beginRound,.code aT] (ofL g [(6,x6),(10,x10),(5,x5),(4,x4),(35,x35)]) H:=by kernel_rfl
theorem rA (r:Ref) (x6 x10 x5 x4 x35:AV) (H:Heap) (Q:AV→Heap→Prop) (h : ∀g,ej r g x6 x10 x5 x4 x35 H Q):GoX env Try.f33 (some r) 2 [.code aU,.beginRound,.code aT] [(6,x6),(10,x10),(5,x5),(4,x4),(35,x35)] H Q:=⟨fun g=>bg (by have h:=h g;rw [ru] at h;exact h)⟩
noncomputable def md:Code:=(Try.f51.body).getD .skip
noncomputable def fg:List Item:=(bP 8 400 [.code md]).getD []
def sO:Nat→Option (List Nat):=fun i=>cond (Nat.beq i 8) (some [29,5,27,2,3,0,28]) (none)
def sY:Nat→Bool:=fun i=>false
def j6 (g:Nat→AV) (x0:AV) (H:Heap) (Q:AV→Heap→Prop):Prop :=
 doW (nRes H (⟨0,2,Heap.gen H 0 2,0⟩:Ref) (bO env.P (⟨0,2,Heap.gen H 0 2,0⟩:Ref) 48)) fun v1 H1 =>
 doW (nRes H1 (⟨0,3,Heap.gen H1 0 3,0⟩:Ref) (bO env.P (⟨0,3,Heap.gen H1 0 3,0⟩:Ref) 103)) fun v2 H2 =>
 doQ (ay env.P false (Heap.get H2) (⟨0,11,Heap.gen H2 0 11,0⟩:Ref) .len #[79] [x0]) fun v3 =>
 doQ (qBin env.P .eql 3 (.tmp 11) (.const (.int .i64 0)) (some v3) (some (.v (.int .i64 0)))) fun v4 =>
 br (some v4) (
 doQ (an env.P (Heap.get H2) 48 (some v1)) fun v5 =>
 doQ (an env.P (Heap.get H2) 103 (some v2)) fun v6 =>
 doW (aw env.P H2 48 (some v1) (some v5)) fun v7 H3 =>
 doW (aw env.P H3 103 (some v2) (some v6)) fun v8 H4 =>
  oJ [(v2,v1)] [v1,v2] [] H4 ∧
 (doQ (aE env.P H4 v1 48) fun v9 =>
 doQ (aE env.P H4 v2 103) fun v10 =>
 Q (.tup [v9,v10,(.v (.int .i64 8))]) H4)) (
 doQ (au env.P (Heap.get H2) 79 (some x0) (some (.v (.int .i64 0)))) fun v5 =>
 doQ (an env.P (Heap.get H2) 68 (some v5)) fun v6 =>
 doW (ak env true (limf env) (limt env 0) H2 (⟨0,19,Heap.gen H2 0 19,0⟩:Ref) (some (.fn (.func 50) [] [])) [v6]) fun v7 H3 =>
 doQ (ao (some v7) 0) fun v8 =>
 doQ (ao (some v7) 1) fun v9 =>
 doW (aw env.P H3 103 (some v2) (some v8)) fun v10 H4 =>
 doQ (qBin env.P .neq 25 (.tmp 22) (.const (.int .i64 0)) (some v9) (some (.v (.int .i64 0)))) fun v11 =>
 br (some v11) (
 doQ (an env.P (Heap.get H4) 48 (some v1)) fun v12 =>
 doQ (bu env.P 103 (some [])) fun v13 =>
 doW (aw env.P H4 48 (some v1) (some v12)) fun v14 H5 =>
 doW (aw env.P H5 103 (some v2) (some v13)) fun v15 H6 =>
 doQ (aE env.P H6 v1 48) fun v16 =>
 doQ (aE env.P H6 v2 103) fun v17 =>
 Q (.tup [v16,v17,v9]) H6) (
 doQ (ay env.P false (Heap.get H4) (⟨0,28,Heap.gen H4 0 28,0⟩:Ref) .len #[79] [x0]) fun v12 =>
  GoL env Try.f51 0 fg [(29,(.v (.int .i64 0))),(5,(.v (.slice none 0 0))),(27,x0),(2,v1),(3,v2),(0,x0),(28,v12)] H4 Q))
theorem zb:j6=fun g x0 H Q=>wp env Try.f51 none 0 sO sY Q 500 [.code md] (ofL g [(0,x0)]) H:=by kernel_rfl
theorem zy (x0:AV) (H:Heap) (Q:AV→Heap→Prop) (h : ∀g,j6 g x0 H Q):GoL env Try.f51 0 [.code md] [(0,x0)] H Q:=⟨fun g=>bg (by have h:=h g;rw [zb] at h;exact h)⟩
def cJ (g:Nat→AV) (x29 x5 x27 x2 x3 x0 x28:AV) (H:Heap) (Q:AV→Heap→Prop):Prop :=
 doQ (qBin env.P .lss 3 (.tmp 29) (.tmp 28) (some x29) (some x28)) fun v1 =>
 br (some v1) (
 doQ (au env.P (Heap.get H) 79 (some x27) (some x29)) fun v2 =>
 doQ (an env.P (Heap.get H) 68 (some v2)) fun v3 =>
 doQ (ay env.P false (Heap.get H) (⟨0,36,Heap.gen H 0 36,0⟩:Ref) .len #[68] [v3]) fun v4 =>
 doQ (ay env.P false (Heap.get H) (⟨0,37,Heap.gen H 0 37,0⟩:Ref) .min #[3,3] [v4,(.v (.int .i64 9))]) fun v5 =>
 doQ (bK env.P (Heap.get H) 68 (some v3) (oi v5) (some none) (some none)) fun v6 =>
 doW (bQ env.P true H (⟨0,39,Heap.gen H 0 39,0⟩:Ref) (some 68) (some 68) x5 v6) fun v7 H1 =>
 doQ (qBin env.P .add 3 (.tmp 29) (.const (.int .i64 1)) (some x29) (some (.v (.int .i64 1)))) fun v8 =>
  GoL env Try.f51 0 fg [(29,v8),(5,v7),(27,x27),(2,x2),(3,x3),(0,x0),(28,x28)] H1 Q) (
 doQ (ay env.P false (Heap.get H) (⟨0,42,Heap.gen H 0 42,0⟩:Ref) .len #[68] [x5]) fun v2 =>
 doQ (qBin env.P .lss 3 (.tmp 42) (.const (.int .i64 8)) (some v2) (some (.v (.int .i64 8)))) fun v3 =>
 br (some v3) (
 doQ (an env.P (Heap.get H) 48 (some x2)) fun v4 =>
 doQ (bu env.P 103 (some [])) fun v5 =>
 doW (aw env.P H 48 (some x2) (some v4)) fun v6 H1 =>
 doW (aw env.P H1 103 (some x3) (some v5)) fun v7 H2 =>
 doQ (aE env.P H2 x2 48) fun v8 =>
 doQ (aE env.P H2 x3 103) fun v9 =>
 Q (.tup [v8,v9,(.v (.int .i64 8))]) H2) (
 doW (ak env true (limf env) (limt env 0) H (⟨0,47,Heap.gen H 0 47,0⟩:Ref) (some (.fn (.func 67) [] [])) [x5]) fun v4 H1 =>
 doW (aw env.P H1 48 (some x2) (some v4)) fun v5 H2 =>
 doQ (an env.P (Heap.get H2) 48 (some x2)) fun v6 =>
 doQ (ab env.P 103 (some x3) 0) fun v7 =>
 doQ (an env.P (Heap.get H2) 3 (some v7)) fun v8 =>
 doQ (ab env.P 103 (some x3) 1) fun v9 =>
 doQ (an env.P (Heap.get H2) 3 (some v9)) fun v10 =>
 doW (ak env true (limf env) (limt env 0) H2 (⟨0,54,Heap.gen H2 0 54,0⟩:Ref) (some (.fn (.func 33) [] [])) [v6,v8,v10]) fun v11 H3 =>
 doQ (ao (some v11) 0) fun v12 =>
 doQ (ao (some v11) 1) fun v13 =>
 doQ (qBin env.P .neq 25 (.tmp 57) (.const (.int .i64 0)) (some v13) (some (.v (.int .i64 0)))) fun v14 =>
 gQ v14 false (qVal (some v12)) fun v15 =>
 gQ v14 false (qVal (some x0)) fun v16 =>
 gW v14 false H3 (ak env true (limf env) (limt env 0) H3 (⟨0,62,Heap.gen H3 0 62,0⟩:Ref) (some (.fn (.func 68) [] [])) [v15,v16,(.fn (.func 69) [] [])]) fun v17 H4 =>
 gQ v14 false (qUn env.P .not (some v17)) fun v18 =>
 doQ (aY (some v14) (some (.v (.bool true))) (some v18)) fun v19 =>
 br (some v19) (
 doQ (bu env.P 48 (some [])) fun v20 =>
 doQ (bu env.P 103 (some [])) fun v21 =>
 doW (aw env.P H4 48 (some x2) (some v20)) fun v22 H5 =>
 doW (aw env.P H5 103 (some x3) (some v21)) fun v23 H6 =>
 doQ (aE env.P H6 x2 48) fun v24 =>
 doQ (aE env.P H6 x3 103) fun v25 =>
 Q (.tup [v24,v25,(.v (.int .i64 8))]) H6) (
 doQ (an env.P (Heap.get H4) 48 (some x2)) fun v20 =>
 doQ (an env.P (Heap.get H4) 103 (some x3)) fun v21 =>
 doW (aw env.P H4 48 (some x2) (some v20)) fun v22 H5 =>
 doW (aw env.P H5 103 (some x3) (some v21)) fun v23 H6 =>
  oJ [(x3,x2)] [x2,x3] [] H6 ∧
 (doQ (aE env.P H6 x2 48) fun v24 =>
 doQ (aE env.P H6 x3 103) fun v25 =>
 Q (.tup [v24,v25,(.v (.int .i64 0))]) H6))))
theorem vE:cJ=fun g x29 x5 x27 x2 x3 x0 x28 H Q=>wp env Try.f51 none 0 sO sY Q 500 (fk fg) (ofL g [(29,x29),(5,x5),(27,x27),(2,x2),(3,x3),(0,x0),(28,x28)]) H:=by kernel_rfl
theorem iw (x29 x5 x27 x2 x3 x0 x28:AV) (H:Heap) (Q:AV→Heap→Prop) (h : ∀g,cJ g x29 x5 x27 x2 x3 x0 x28 H Q):GoL env Try.f51 0 fg [(29,x29),(5,x5),(27,x27),(2,x2),(3,x3),(0,x0),(28,x28)] H Q:=cQ fun g=>bg (by have h:=h g;rw [vE] at h;exact h)
noncomputable def nK:Code:=(Try.f50.body).getD .skip
def xN:Nat→Option (List Nat):=fun i=>none
def xZ:Nat→Bool:=fun i=>false
def jb (g:Nat→AV) (x0:AV) (H:Heap) (Q:AV→Heap→Prop):Prop :=
 doW (nRes H (⟨0,2,Heap.gen H 0 2,0⟩:Ref) (bO env.P (⟨0,2,Heap.gen H 0 2,0⟩:Ref) 103)) fun v1 H1 =>
 doQ (ay env.P false (Heap.get H1) (⟨0,6,Heap.gen H1 0 6,0⟩:Ref) .len #[68] [x0]) fun v2 =>
 doQ (qBin env.P .neq 3 (.tmp 6) (.const (.int .i64 128)) (some v2) (some (.v (.int .i64 128)))) fun v3 =>
 br (some v3) (
 doQ (bu env.P 103 (some [])) fun v4 =>
 doW (aw env.P H1 103 (some v1) (some v4)) fun v5 H2 =>
 doQ (aE env.P H2 v1 103) fun v6 =>
 Q (.tup [v6,(.v (.int .i64 8))]) H2) (
 doQ (bK env.P (Heap.get H1) 68 (some x0) (some none) (oi (.v (.int .i64 4))) (some none)) fun v4 =>
 doW (ak env false (limf env) (limt env 0) H1 (⟨0,11,Heap.gen H1 0 11,0⟩:Ref) (some (.fn (.func 66) [] [])) [v4]) fun v5 H2 =>
 doQ (bK env.P (Heap.get H2) 68 (some x0) (oi (.v (.int .i64 4))) (oi (.v (.int .i64 7))) (some none)) fun v6 =>
 doW (ak env false (limf env) (limt env 0) H2 (⟨0,14,Heap.gen H2 0 14,0⟩:Ref) (some (.fn (.func 66) [] [])) [v6]) fun v7 H3 =>
 doQ (au env.P (Heap.get H3) 68 (some x0) (some (.v (.int .i64 7)))) fun v8 =>
 doQ (an env.P (Heap.get H3) 5 (some v8)) fun v9 =>
 doQ (aJ env.P (Heap.get H3) (⟨0,18,Heap.gen H3 0 18,0⟩:Ref) 5 3 (some v9)) fun v10 =>
 doQ (au env.P (Heap.get H3) 68 (some x0) (some (.v (.int .i64 8)))) fun v11 =>
 doQ (an env.P (Heap.get H3) 5 (some v11)) fun v12 =>
 doQ (aJ env.P (Heap.get H3) (⟨0,22,Heap.gen H3 0 22,0⟩:Ref) 5 3 (some v12)) fun v13 =>
 doQ (bu env.P 103 (some [(0,v5),(1,v7),(2,v10),(3,v13)])) fun v14 =>
 doW (nRes H3 (⟨0,4,Heap.gen H3 0 4,0⟩:Ref) (bO env.P (⟨0,4,Heap.gen H3 0 4,0⟩:Ref) 103)) fun v15 H4 =>
 doW (aw env.P H4 103 (some v15) (some v14)) fun v16 H5 =>
 doQ (an env.P (Heap.get H5) 103 (some v15)) fun v17 =>
 doW (ak env true (limf env) (limt env 0) H5 (⟨0,25,Heap.gen H5 0 25,0⟩:Ref) (some (.fn (.func 45) [] [])) [v17]) fun v18 H6 =>
 doQ (qUn env.P .not (some v18)) fun v19 =>
 br (some v19) (
 doQ (bu env.P 103 (some [])) fun v20 =>
 doW (aw env.P H6 103 (some v1) (some v20)) fun v21 H7 =>
 doQ (aE env.P H7 v1 103) fun v22 =>
 Q (.tup [v22,(.v (.int .i64 8))]) H7) (
 doQ (an env.P (Heap.get H6) 103 (some v15)) fun v20 =>
 doW (aw env.P H6 103 (some v1) (some v20)) fun v21 H7 =>
 doQ (aE env.P H7 v1 103) fun v22 =>
 Q (.tup [v22,(.v (.int .i64 0))]) H7))
theorem xj:jb=fun g x0 H Q=>wp env Try.f50 none 0 xN xZ Q 500 [.code nK] (ofL g [(0,x0)]) H:=by kernel_rfl
theorem xA (x0:AV) (H:Heap) (Q:AV→Heap→Prop) (h : ∀g,jb g x0 H Q):GoL env Try.f50 0 [.code nK] [(0,x0)] H Q:=⟨fun g=>bg (by have h:=h g;rw [xj] at h;exact h)⟩
noncomputable def pj:Code:=(Try.f45.body).getD .skip
def Ae:Nat→Option (List Nat):=fun i=>none
def Av:Nat→Bool:=fun i=>false
def pA (g:Nat→AV) (x0:AV) (H:Heap) (Q:AV→Heap→Prop):Prop :=
 doW (nRes H (⟨0,1,Heap.gen H 0 1,0⟩:Ref) (qBox env.P (⟨0,1,Heap.gen H 0 1,0⟩:Ref) 103 (some x0))) fun v1 H1 =>
 doQ (ab env.P 103 (some v1) 0) fun v2 =>
 doQ (an env.P (Heap.get H1) 3 (some v2)) fun v3 =>
 doQ (qBin env.P .geq 3 (.tmp 4) (.const (.int .i64 1)) (some v3) (some (.v (.int .i64 1)))) fun v4 =>
 gQ v4 true (ab env.P 103 (some v1) 0) fun v5 =>
 gQ v4 true (an env.P (Heap.get H1) 3 (some v5)) fun v6 =>
 gQ v4 true (qBin env.P .lss 3 (.tmp 8) (.const (.int .i64 2147483648)) (some v6) (some (.v (.int .i64 2147483648)))) fun v7 =>
 doQ (aY (some v4) (some v7) (some (.v (.bool false)))) fun v8 =>
 gQ v8 true (ab env.P 103 (some v1) 1) fun v9 =>
 gQ v8 true (an env.P (Heap.get H1) 3 (some v9)) fun v10 =>
 gQ v8 true (qBin env.P .geq 3 (.tmp 13) (.const (.int .i64 1)) (some v10) (some (.v (.int .i64 1)))) fun v11 =>
 doQ (aY (some v8) (some v11) (some (.v (.bool false)))) fun v12 =>
 gQ v12 true (ab env.P 103 (some v1) 1) fun v13 =>
 gQ v12 true (an env.P (Heap.get H1) 3 (some v13)) fun v14 =>
 gQ v12 true (qBin env.P .lss 3 (.tmp 18) (.const (.int .i64 16777216)) (some v14) (some (.v (.int .i64 16777216)))) fun v15 =>
 doQ (aY (some v12) (some v15) (some (.v (.bool false)))) fun v16 =>
 gQ v16 true (ab env.P 103 (some v1) 3) fun v17 =>
 gQ v16 true (an env.P (Heap.get H1) 3 (some v17)) fun v18 =>
 gQ v16 true (qBin env.P .geq 3 (.tmp 23) (.const (.int .i64 1)) (some v18) (some (.v (.int .i64 1)))) fun v19 =>
 doQ (aY (some v16) (some v19) (some (.v (.bool false)))) fun v20 =>
 gQ v20 true (ab env.P 103 (some v1) 3) fun v21 =>
 gQ v20 true (an env.P (Heap.get H1) 3 (some v21)) fun v22 =>
 gQ v20 true (qBin env.P .leq 3 (.tmp 28) (.const (.int .i64 4)) (some v22) (some (.v (.int .i64 4)))) fun v23 =>
 doQ (aY (some v20) (some v23) (some (.v (.bool false)))) fun v24 =>
 gQ v24 true (ab env.P 103 (some v1) 2) fun v25 =>
 gQ v24 true (an env.P (Heap.get H1) 3 (some v25)) fun v26 =>
 gQ v24 true (qBin env.P .geq 3 (.tmp 33) (.const (.int .i64 0)) (some v26) (some (.v (.int .i64 0)))) fun v27 =>
 doQ (aY (some v24) (some v27) (some (.v (.bool false)))) fun v28 =>
 gQ v28 true (ab env.P 103 (some v1) 2) fun v29 =>
 gQ v28 true (an env.P (Heap.get H1) 3 (some v29)) fun v30 =>
 gQ v28 true (ab env.P 103 (some v1) 3) fun v31 =>
 gQ v28 true (an env.P (Heap.get H1) 3 (some v31)) fun v32 =>
 gQ v28 true (qBin env.P .lss 3 (.tmp 38) (.tmp 40) (some v30) (some v32)) fun v33 =>
 doQ (aY (some v28) (some v33) (some (.v (.bool false)))) fun v34 =>
 Q v34 H1
theorem y9:pA=fun g x0 H Q=>wp env Try.f45 none 0 Ae Av Q 500 [.code pj] (ofL g [(0,x0)]) H:=by kernel_rfl
theorem zw (x0:AV) (H:Heap) (Q:AV→Heap→Prop) (h : ∀g,pA g x0 H Q):GoL env Try.f45 0 [.code pj] [(0,x0)] H Q:=⟨fun g=>bg (by have h:=h g;rw [y9] at h;exact h)⟩
noncomputable def gU:Code:=(Try.f48.body).getD .skip
noncomputable def ij:List Item:=(bP 2 400 [.code gU]).getD []
def pM:Nat→Option (List Nat):=fun i=>cond (Nat.beq i 2) (some [5,0,4]) (none)
def pO:Nat→Bool:=fun i=>false
def jk (g:Nat→AV) (x0 x1:AV) (H:Heap) (Q:AV→Heap→Prop):Prop :=
 doQ (qBin env.P .sub 3 (.tmp 6) (.const (.int .i64 1)) (some x1) (some (.v (.int .i64 1)))) fun v1 =>
  GoL env Try.f48 0 ij [(5,v1),(0,x0),(4,(.v (.slice none 0 0)))] H Q
theorem uH:jk=fun g x0 x1 H Q=>wp env Try.f48 none 0 pM pO Q 500 [.code gU] (ofL g [(0,x0),(1,x1)]) H:=by kernel_rfl
theorem pJ (x0 x1:AV) (H:Heap) (Q:AV→Heap→Prop) (h : ∀g,jk g x0 x1 H Q):GoL env Try.f48 0 [.code gU] [(0,x0),(1,x1)] H Q:=⟨fun g=>bg (by have h:=h g;rw [uH] at h;exact h)⟩
def cf (g:Nat→AV) (x5 x0 x4:AV) (H:Heap) (Q:AV→Heap→Prop):Prop :=
 doQ (qBin env.P .geq 3 (.tmp 8) (.const (.int .i64 0)) (some x5) (some (.v (.int .i64 0)))) fun v1 =>
 br (some v1) (
 doQ (qBin env.P .mul 3 (.const (.int .i64 8)) (.tmp 14) (some (.v (.int .i64 8))) (some x5)) fun v2 =>
 doQ (qBin env.P .shr 3 (.tmp 13) (.tmp 15) (some x0) (some v2)) fun v3 =>
 doQ (aJ env.P (Heap.get H) (⟨0,17,Heap.gen H 0 17,0⟩:Ref) 3 5 (some v3)) fun v4 =>
 doW (fX env.P false true H (⟨0,18,Heap.gen H 0 18,0⟩:Ref) 68 1 (some [(0,v4)])) fun v5 H1 =>
 doW (bQ env.P true H1 (⟨0,19,Heap.gen H1 0 19,0⟩:Ref) (some 68) (some 68) x4 v5) fun v6 H2 =>
 doQ (qBin env.P .sub 3 (.tmp 10) (.const (.int .i64 1)) (some x5) (some (.v (.int .i64 1)))) fun v7 =>
  GoL env Try.f48 0 ij [(5,v7),(0,x0),(4,v6)] H2 Q) (
 Q x4 H)
theorem sg:cf=fun g x5 x0 x4 H Q=>wp env Try.f48 none 0 pM pO Q 500 (fk ij) (ofL g [(5,x5),(0,x0),(4,x4)]) H:=by kernel_rfl
theorem cN (x5 x0 x4:AV) (H:Heap) (Q:AV→Heap→Prop) (h : ∀g,cf g x5 x0 x4 H Q):GoL env Try.f48 0 ij [(5,x5),(0,x0),(4,x4)] H Q:=cQ fun g=>bg (by have h:=h g;rw [sg] at h;exact h)
noncomputable def mL:Code:=(Try.f67.body).getD .skip
def wx:Nat→Option (List Nat):=fun i=>none
def wM:Nat→Bool:=fun i=>false
def ga (g:Nat→AV) (x0:AV) (H:Heap) (Q:AV→Heap→Prop):Prop :=
 doW (nRes H (⟨0,2,Heap.gen H 0 2,0⟩:Ref) (bO env.P (⟨0,2,Heap.gen H 0 2,0⟩:Ref) 48)) fun v1 H1 =>
 doQ (au env.P (Heap.get H1) 68 (some x0) (some (.v (.int .i64 0)))) fun v2 =>
 doQ (an env.P (Heap.get H1) 5 (some v2)) fun v3 =>
 doQ (ab env.P 48 (some v1) 0) fun v4 =>
 doW (aw env.P H1 5 (some v4) (some v3)) fun v5 H2 =>
 doQ (bK env.P (Heap.get H2) 68 (some x0) (oi (.v (.int .i64 1))) (some none) (some none)) fun v6 =>
 doQ (ab env.P 48 (some v1) 0) fun v7 =>
 doQ (an env.P (Heap.get H2) 5 (some v7)) fun v8 =>
 doQ (qBin env.P .eql 5 (.tmp 10) (.const (.int .u8 1)) (some v8) (some (a8 1))) fun v9 =>
 br (some v9) (
 doQ (bK env.P (Heap.get H2) 68 (some v6) (some none) (oi (.v (.int .i64 6))) (some none)) fun v10 =>
 doW (ak env true (limf env) (limt env 0) H2 (⟨0,16,Heap.gen H2 0 16,0⟩:Ref) (some (.fn (.func 81) [] [])) [v10]) fun v11 H3 =>
 doQ (ao (some v11) 0) fun v12 =>
 doQ (ao (some v11) 1) fun v13 =>
 doQ (ab env.P 48 (some v1) 2) fun v14 =>
 doQ (ab env.P 42 (some v14) 1) fun v15 =>
 doW (aw env.P H3 35 (some v15) (some v12)) fun v16 H4 =>
 doQ (au env.P (Heap.get H4) 68 (some v6) (some (.v (.int .i64 6)))) fun v17 =>
 doQ (an env.P (Heap.get H4) 5 (some v17)) fun v18 =>
 doQ (aJ env.P (Heap.get H4) (⟨0,24,Heap.gen H4 0 24,0⟩:Ref) 5 3 (some v18)) fun v19 =>
 doQ (ab env.P 48 (some v1) 1) fun v20 =>
 doW (aw env.P H4 3 (some v20) (some v19)) fun v21 H5 =>
 doQ (an env.P (Heap.get H5) 48 (some v1)) fun v22 =>
 doW (aw env.P H5 48 (some v1) (some v22)) fun v23 H6 =>
 doQ (aE env.P H6 v1 48) fun v24 =>
 Q v24 H6) (
 doQ (qBin env.P .eql 5 (.tmp 10) (.const (.int .u8 2)) (some v8) (some (a8 2))) fun v10 =>
 br (some v10) (
 doQ (bK env.P (Heap.get H2) 68 (some v6) (some none) (oi (.v (.int .i64 2))) (some none)) fun v11 =>
 doW (ak env true (limf env) (limt env 0) H2 (⟨0,30,Heap.gen H2 0 30,0⟩:Ref) (some (.fn (.func 66) [] [])) [v11]) fun v12 H3 =>
 doQ (ab env.P 48 (some v1) 3) fun v13 =>
 doW (aw env.P H3 25 (some v13) (some v12)) fun v14 H4 =>
 doQ (bK env.P (Heap.get H4) 68 (some v6) (oi (.v (.int .i64 2))) (some none) (some none)) fun v15 =>
 doW (ak env true (limf env) (limt env 0) H4 (⟨0,35,Heap.gen H4 0 35,0⟩:Ref) (some (.fn (.func 82) [] [])) [v15]) fun v16 H5 =>
 doQ (ao (some v16) 0) fun v17 =>
 doQ (ao (some v16) 1) fun v18 =>
 doQ (ao (some v16) 2) fun v19 =>
 doQ (ab env.P 48 (some v1) 2) fun v20 =>
 doW (aw env.P H5 42 (some v20) (some v17)) fun v21 H6 =>
 doQ (an env.P (Heap.get H6) 48 (some v1)) fun v22 =>
 doW (aw env.P H6 48 (some v1) (some v22)) fun v23 H7 =>
 doQ (aE env.P H7 v1 48) fun v24 =>
 Q v24 H7) (
 doQ (qBin env.P .eql 5 (.tmp 10) (.const (.int .u8 3)) (some v8) (some (a8 3))) fun v11 =>
 br (some v11) (
 doQ (bK env.P (Heap.get H2) 68 (some v6) (some none) (oi (.v (.int .i64 7))) (some none)) fun v12 =>
 doW (ak env true (limf env) (limt env 0) H2 (⟨0,45,Heap.gen H2 0 45,0⟩:Ref) (some (.fn (.func 83) [] [])) [v12]) fun v13 H3 =>
 doQ (ao (some v13) 0) fun v14 =>
 doQ (ao (some v13) 1) fun v15 =>
 doQ (ab env.P 48 (some v1) 4) fun v16 =>
 doW (aw env.P H3 46 (some v16) (some v14)) fun v17 H4 =>
 doQ (an env.P (Heap.get H4) 48 (some v1)) fun v18 =>
 doW (aw env.P H4 48 (some v1) (some v18)) fun v19 H5 =>
 doQ (aE env.P H5 v1 48) fun v20 =>
 Q v20 H5) (
 doQ (an env.P (Heap.get H2) 48 (some v1)) fun v12 =>
 doW (aw env.P H2 48 (some v1) (some v12)) fun v13 H3 =>
 doQ (aE env.P H3 v1 48) fun v14 =>
 Q v14 H3)))
theorem vD:ga=fun g x0 H Q=>wp env Try.f67 none 0 wx wM Q 500 [.code mL] (ofL g [(0,x0)]) H:=by kernel_rfl
theorem vJ (x0:AV) (H:Heap) (Q:AV→Heap→Prop) (h : ∀g,ga g x0 H Q):GoL env Try.f67 0 [.code mL] [(0,x0)] H Q:=⟨fun g=>bg (by have h:=h g;rw [vD] at h;exact h)⟩
noncomputable def bh:Code:=(Try.f68.body).getD .skip
noncomputable def aP:List Item:=(bP 4 400 [.code bh]).getD []
def cW:Nat→Option (List Nat):=fun i=>cond (Nat.beq i 4) (some [17,2,1,15,16]) (none)
def cX:Nat→Bool:=fun i=>false
def bj (g:Nat→AV) (x0 x1 x2:AV) (H:Heap) (Q:AV→Heap→Prop):Prop :=
 doQ (ay env.P false (Heap.get H) (⟨0,11,Heap.gen H 0 11,0⟩:Ref) .len #[79] [x0]) fun v1 =>
 doQ (ay env.P false (Heap.get H) (⟨0,13,Heap.gen H 0 13,0⟩:Ref) .len #[79] [x1]) fun v2 =>
 doQ (qBin env.P .neq 3 (.tmp 11) (.tmp 13) (some v1) (some v2)) fun v3 =>
 br (some v3) (
 Q (.v (.bool false)) H) (
 doQ (ay env.P false (Heap.get H) (⟨0,16,Heap.gen H 0 16,0⟩:Ref) .len #[79] [x0]) fun v4 =>
  GoL env Try.f68 0 aP [(17,(.v (.int .i64 0))),(2,x2),(1,x1),(15,x0),(16,v4)] H Q)
theorem eZ:bj=fun g x0 x1 x2 H Q=>wp env Try.f68 none 0 cW cX Q 500 [.code bh] (ofL g [(0,x0),(1,x1),(2,x2)]) H:=by kernel_rfl
theorem fa (x0 x1 x2:AV) (H:Heap) (Q:AV→Heap→Prop) (h : ∀g,bj g x0 x1 x2 H Q):GoL env Try.f68 0 [.code bh] [(0,x0),(1,x1),(2,x2)] H Q:=⟨fun g=>bg (by have h:=h g;rw [eZ] at h;exact h)⟩
def aQ (g:Nat→AV) (x17 x2 x1 x15 x16:AV) (H:Heap) (Q:AV→Heap→Prop):Prop :=
 doQ (qBin env.P .lss 3 (.tmp 17) (.tmp 16) (some x17) (some x16)) fun v1 =>
 br (some v1) (
 doQ (au env.P (Heap.get H) 79 (some x15) (some x17)) fun v2 =>
 doQ (an env.P (Heap.get H) 68 (some v2)) fun v3 =>
 doQ (au env.P (Heap.get H) 79 (some x1) (some x17)) fun v4 =>
 doQ (an env.P (Heap.get H) 68 (some v4)) fun v5 =>
 doW (ak env true (limf env) (limt env 0) H (⟨0,29,Heap.gen H 0 29,0⟩:Ref) (some x2) [v3,v5]) fun v6 H1 =>
 doQ (qUn env.P .not (some v6)) fun v7 =>
 br (some v7) (
 Q (.v (.bool false)) H1) (
 doQ (qBin env.P .add 3 (.tmp 17) (.const (.int .i64 1)) (some x17) (some (.v (.int .i64 1)))) fun v8 =>
  GoL env Try.f68 0 aP [(17,v8),(2,x2),(1,x1),(15,x15),(16,x16)] H1 Q)) (
 Q (.v (.bool true)) H)
theorem eO:aQ=fun g x17 x2 x1 x15 x16 H Q=>wp env Try.f68 none 0 cW cX Q 500 (fk aP) (ofL g [(17,x17),(2,x2),(1,x1),(15,x15),(16,x16)]) H:=by kernel_rfl
theorem bE (x17 x2 x1 x15 x16:AV) (H:Heap) (Q:AV→Heap→Prop) (h : ∀g,aQ g x17 x2 x1 x15 x16 H Q):GoL env Try.f68 0 aP [(17,x17),(2,x2),(1,x1),(15,x15),(16,x16)] H Q:=cQ fun g=>bg (by have h:=h g;rw [eO] at h;exact h)
noncomputable def kL:Code:=(Try.f66.body).getD .skip
noncomputable def gP:List Item:=(bP 2 400 [.code kL]).getD []
def rl:Nat→Option (List Nat):=fun i=>cond (Nat.beq i 2) (some [7,2,5,6]) (none)
def rp:Nat→Bool:=fun i=>false
def nT (g:Nat→AV) (x0:AV) (H:Heap) (Q:AV→Heap→Prop):Prop :=
 doQ (ay env.P false (Heap.get H) (⟨0,6,Heap.gen H 0 6,0⟩:Ref) .len #[68] [x0]) fun v1 =>
  GoL env Try.f66 0 gP [(7,(.v (.int .i64 0))),(2,(.v (.int .i64 0))),(5,x0),(6,v1)] H Q
theorem xh:nT=fun g x0 H Q=>wp env Try.f66 none 0 rl rp Q 500 [.code kL] (ofL g [(0,x0)]) H:=by kernel_rfl
theorem xy (x0:AV) (H:Heap) (Q:AV→Heap→Prop) (h : ∀g,nT g x0 H Q):GoL env Try.f66 0 [.code kL] [(0,x0)] H Q:=⟨fun g=>bg (by have h:=h g;rw [xh] at h;exact h)⟩
def jj (g:Nat→AV) (x7 x2 x5 x6:AV) (H:Heap) (Q:AV→Heap→Prop):Prop :=
 doQ (qBin env.P .lss 3 (.tmp 7) (.tmp 6) (some x7) (some x6)) fun v1 =>
 br (some v1) (
 doQ (au env.P (Heap.get H) 68 (some x5) (some x7)) fun v2 =>
 doQ (an env.P (Heap.get H) 5 (some v2)) fun v3 =>
 doQ (qBin env.P .shl 3 (.tmp 11) (.const (.int .u64 8)) (some x2) (some (.v (.int .u64 8)))) fun v4 =>
 doQ (aJ env.P (Heap.get H) (⟨0,14,Heap.gen H 0 14,0⟩:Ref) 5 3 (some v3)) fun v5 =>
 doQ (qBin env.P .or 3 (.tmp 12) (.tmp 14) (some v4) (some v5)) fun v6 =>
 doQ (qBin env.P .add 3 (.tmp 7) (.const (.int .i64 1)) (some x7) (some (.v (.int .i64 1)))) fun v7 =>
  GoL env Try.f66 0 gP [(7,v7),(2,v6),(5,x5),(6,x6)] H Q) (
 Q x2 H)
theorem uG:jj=fun g x7 x2 x5 x6 H Q=>wp env Try.f66 none 0 rl rp Q 500 (fk gP) (ofL g [(7,x7),(2,x2),(5,x5),(6,x6)]) H:=by kernel_rfl
theorem pI (x7 x2 x5 x6:AV) (H:Heap) (Q:AV→Heap→Prop) (h : ∀g,jj g x7 x2 x5 x6 H Q):GoL env Try.f66 0 gP [(7,x7),(2,x2),(5,x5),(6,x6)] H Q:=cQ fun g=>bg (by have h:=h g;rw [uG] at h;exact h)
noncomputable def ld:Code:=(Try.f83.body).getD .skip
def BQ:Nat→Option (List Nat):=fun i=>none
def Cm:Nat→Bool:=fun i=>false
def lh (g:Nat→AV) (x0:AV) (H:Heap) (Q:AV→Heap→Prop):Prop :=
 doW (nRes H (⟨0,2,Heap.gen H 0 2,0⟩:Ref) (bO env.P (⟨0,2,Heap.gen H 0 2,0⟩:Ref) 46)) fun v1 H1 =>
 doQ (ay env.P false (Heap.get H1) (⟨0,8,Heap.gen H1 0 8,0⟩:Ref) .len #[68] [x0]) fun v2 =>
 doQ (qBin env.P .neq 3 (.tmp 8) (.const (.int .i64 7)) (some v2) (some (.v (.int .i64 7)))) fun v3 =>
 gQ v3 false (qVal (some x0)) fun v4 =>
 gQ v3 false (au env.P (Heap.get H1) 68 (some v4) (some (.v (.int .i64 1)))) fun v5 =>
 gQ v3 false (an env.P (Heap.get H1) 5 (some v5)) fun v6 =>
 gQ v3 false (qBin env.P .gtr 5 (.tmp 13) (.const (.int .u8 1)) (some v6) (some (a8 1))) fun v7 =>
 doQ (aY (some v3) (some (.v (.bool true))) (some v7)) fun v8 =>
 br (some v8) (
 doQ (bu env.P 46 (some [])) fun v9 =>
 doW (aw env.P H1 46 (some v1) (some v9)) fun v10 H2 =>
 doQ (aE env.P H2 v1 46) fun v11 =>
 Q (.tup [v11,(.v (.int .i64 8))]) H2) (
 doQ (bK env.P (Heap.get H1) 68 (some x0) (oi (.v (.int .i64 2))) (oi (.v (.int .i64 7))) (oi (.v (.int .i64 7)))) fun v9 =>
 doW (fX env.P false true H1 (⟨0,20,Heap.gen H1 0 20,0⟩:Ref) 68 1 (some [(0,(a8 0))])) fun v10 H2 =>
 doW (bQ env.P true H2 (⟨0,21,Heap.gen H2 0 21,0⟩:Ref) (some 68) (some 68) v9 v10) fun v11 H3 =>
 doW (ak env true (limf env) (limt env 0) H3 (⟨0,22,Heap.gen H3 0 22,0⟩:Ref) (some (.fn (.func 81) [] [])) [v11]) fun v12 H4 =>
 doQ (ao (some v12) 0) fun v13 =>
 doQ (ao (some v12) 1) fun v14 =>
 doW (nRes H4 (⟨0,4,Heap.gen H4 0 4,0⟩:Ref) (bO env.P (⟨0,4,Heap.gen H4 0 4,0⟩:Ref) 35)) fun v15 H5 =>
 doW (aw env.P H5 35 (some v15) (some v13)) fun v16 H6 =>
 doQ (au env.P (Heap.get H6) 68 (some x0) (some (.v (.int .i64 0)))) fun v17 =>
 doQ (an env.P (Heap.get H6) 5 (some v17)) fun v18 =>
 doQ (aJ env.P (Heap.get H6) (⟨0,28,Heap.gen H6 0 28,0⟩:Ref) 5 3 (some v18)) fun v19 =>
 doQ (ab env.P 35 (some v15) 0) fun v20 =>
 doQ (an env.P (Heap.get H6) 33 (some v20)) fun v21 =>
 doQ (au env.P (Heap.get H6) 68 (some x0) (some (.v (.int .i64 1)))) fun v22 =>
 doQ (an env.P (Heap.get H6) 5 (some v22)) fun v23 =>
 doQ (qBin env.P .eql 5 (.tmp 33) (.const (.int .u8 1)) (some v23) (some (a8 1))) fun v24 =>
 doQ (bu env.P 44 (some [(0,v21),(1,v24)])) fun v25 =>
 doQ (bu env.P 46 (some [(0,v19),(1,v25)])) fun v26 =>
 doW (nRes H6 (⟨0,6,Heap.gen H6 0 6,0⟩:Ref) (bO env.P (⟨0,6,Heap.gen H6 0 6,0⟩:Ref) 46)) fun v27 H7 =>
 doW (aw env.P H7 46 (some v27) (some v26)) fun v28 H8 =>
 doQ (qBin env.P .neq 25 (.tmp 37) (.const (.int .i64 0)) (some v14) (some (.v (.int .i64 0)))) fun v29 =>
 gQ v29 false (an env.P (Heap.get H8) 46 (some v27)) fun v30 =>
 gW v29 false H8 (ak env true (limf env) (limt env 0) H8 (⟨0,41,Heap.gen H8 0 41,0⟩:Ref) (some (.fn (.func 77) [] [])) [v30]) fun v31 H9 =>
 gQ v29 false (qBin env.P .neq 25 (.tmp 41) (.const (.int .i64 0)) (some v31) (some (.v (.int .i64 0)))) fun v32 =>
 doQ (aY (some v29) (some (.v (.bool true))) (some v32)) fun v33 =>
 br (some v33) (
 doQ (bu env.P 46 (some [])) fun v34 =>
 doW (aw env.P H9 46 (some v1) (some v34)) fun v35 H10 =>
 doQ (aE env.P H10 v1 46) fun v36 =>
 Q (.tup [v36,(.v (.int .i64 8))]) H10) (
 doQ (an env.P (Heap.get H9) 46 (some v27)) fun v34 =>
 doW (aw env.P H9 46 (some v1) (some v34)) fun v35 H10 =>
 doQ (aE env.P H10 v1 46) fun v36 =>
 Q (.tup [v36,(.v (.int .i64 0))]) H10))
theorem A9:lh=fun g x0 H Q=>wp env Try.f83 none 0 BQ Cm Q 500 [.code ld] (ofL g [(0,x0)]) H:=by kernel_rfl
theorem pY (x0:AV) (H:Heap) (Q:AV→Heap→Prop) (h : ∀g,lh g x0 H Q):GoL env Try.f83 0 [.code ld] [(0,x0)] H Q:=⟨fun g=>bg (by have h:=h g;rw [A9] at h;exact h)⟩
end Go.Proofs.Ytmjkpdknicjjgaa
