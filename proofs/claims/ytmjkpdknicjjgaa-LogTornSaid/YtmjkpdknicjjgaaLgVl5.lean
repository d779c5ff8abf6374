/-
  What is to be shown of each function, computed from its code. No statement of a seat is proved here.
-/
import Derived.Test.YtmjkpdknicjjgaaLgTy
set_option linter.unusedVariables false
set_option maxRecDepth 1000000
namespace Go.Proofs.Ytmjkpdknicjjgaa
open Go.Ab
noncomputable def de:Code:=(Try.f5.body).getD .skip
noncomputable def bI:List Item:=(ca 9 400 [.code de]).getD []
noncomputable def cI:List Item:=(ca 28 400 [.code de]).getD []
def fE:Nat→Option (List Nat):=fun i=>cond (Nat.beq i 9) (some [9,7,13,0,10,1,12,8,2,11]) (cond (Nat.beq i 28) (some [21,2,7,19,10,11]) (none))
def fF:Nat→Bool:=fun i=>false
def bT (g:Nat→AV) (x0 x1 x2:AV) (H:Heap) (Q:AV→Heap→Prop):Prop :=
 doW (ao env true (limf env) (limt env 0) H (⟨0,25,Heap.gen H 0 25,0⟩:Ref) (some (.fn (.func 16) [] [])) []) fun v1 H1 =>
 doW (ao env true (limf env) (limt env 0) H1 (⟨0,27,Heap.gen H1 0 27,0⟩:Ref) (some (.fn (.func 18) [] [])) [x0,(.v (.int .i64 12))]) fun v2 H2 =>
 gQ v2 false (qVal (some x2)) fun v3 =>
 gW v2 false H2 (ao env true (limf env) (limt env 0) H2 (⟨0,30,Heap.gen H2 0 30,0⟩:Ref) (some (.fn (.func 18) [] [])) [v3,(.v (.int .i64 12))]) fun v4 H3 =>
 doQ (bj (some v2) (some (.v (.bool true))) (some v4)) fun v5 =>
 gQ v5 false (qVal (some x1)) fun v6 =>
 gQ v5 false (qBin env.P .lss 3 (.tmp 33) (.const (.int .i64 0)) (some v6) (some (.v (.int .i64 0)))) fun v7 =>
 doQ (bj (some v5) (some (.v (.bool true))) (some v7)) fun v8 =>
 gQ v8 false (qVal (some x1)) fun v9 =>
 gQ v8 false (qBin env.P .gtr 3 (.tmp 37) (.const (.int .i64 1000)) (some v9) (some (.v (.int .i64 1000)))) fun v10 =>
 doQ (bj (some v8) (some (.v (.bool true))) (some v10)) fun v11 =>
 gQ v11 false (qVal (some v1)) fun v12 =>
 gQ v11 false (qUn env.P .not (some v12)) fun v13 =>
 doQ (bj (some v11) (some (.v (.bool true))) (some v13)) fun v14 =>
 br (some v14) (
 Q v1 H3) (
 doW (ao env true (limf env) (limt env 0) H3 (⟨0,46,Heap.gen H3 0 46,0⟩:Ref) (some (.fn (.func 10) [] [])) []) fun v15 H4 =>
 doW (ao env true (limf env) (limt env 0) H4 (⟨0,48,Heap.gen H4 0 48,0⟩:Ref) (some (.fn (.func 9) [] [])) [v15,x1]) fun v16 H5 =>
 doQ (aw (some v16) 0) fun v17 =>
 doQ (aw (some v16) 1) fun v18 =>
 doW (nRes H5 (⟨0,8,Heap.gen H5 0 8,0⟩:Ref) (cC env.P (⟨0,8,Heap.gen H5 0 8,0⟩:Ref) 24)) fun v19 H6 =>
 doW (az env.P H6 24 (some v19) (some v17)) fun v20 H7 =>
  GoL env Try.f5 0 bI [(9,v18),(7,v1),(13,(.v (.int .i64 0))),(0,x0),(10,(.v (.slice none 0 0))),(1,x1),(12,(.v (.int .i64 0))),(8,v19),(2,x2),(11,(.v (.int .i64 0)))] H7 Q)
theorem mG:bT=fun g x0 x1 x2 H Q=>wp env Try.f5 none 0 fE fF Q 500 [.code de] (ofL g [(0,x0),(1,x1),(2,x2)]) H:=by kernel_rfl
theorem mI (x0 x1 x2:AV) (H:Heap) (Q:AV→Heap→Prop) (h : ∀g,bT g x0 x1 x2 H Q):GoL env Try.f5 0 [.code de] [(0,x0),(1,x1),(2,x2)] H Q:=⟨fun g=>bn (by have h:=h g;rw [mG] at h;exact h)⟩
def aV (g:Nat→AV) (x9 x7 x13 x0 x10 x1 x12 x8 x2 x11:AV) (H:Heap) (Q:AV→Heap→Prop):Prop :=
 doQ (aC env.P false (Heap.get H) (⟨0,53,Heap.gen H 0 53,0⟩:Ref) .len #[50] [x0]) fun v1 =>
 doQ (qBin env.P .lss 3 (.tmp 51) (.tmp 53) (some x13) (some v1)) fun v2 =>
 br (some v2) (
 doQ (ay env.P (Heap.get H) 50 (some x0) (some x13)) fun v3 =>
 doQ (aq env.P (Heap.get H) 48 (some v3)) fun v4 =>
 doW (ao env true (limf env) (limt env 0) H (⟨0,62,Heap.gen H 0 62,0⟩:Ref) (some (.fn (.func 20) [] [])) [v4]) fun v5 H1 =>
 doQ (aw (some v5) 0) fun v6 =>
 doQ (aw (some v5) 1) fun v7 =>
 doQ (aq env.P (Heap.get H1) 24 (some x8)) fun v8 =>
 doQ (qBin env.P .add 3 (.tmp 68) (.const (.int .i64 1)) (some x13) (some (.v (.int .i64 1)))) fun v9 =>
 doQ (ay env.P (Heap.get H1) 50 (some x0) (some x13)) fun v10 =>
 doQ (aq env.P (Heap.get H1) 48 (some v10)) fun v11 =>
 doW (ao env false (limf env) (limt env 0) H1 (⟨0,74,Heap.gen H1 0 74,0⟩:Ref) (some (.fn (.func 14) [] [])) [v8,(.v (.int .i64 0)),x12,v9,v11]) fun v12 H2 =>
 doQ (aw (some v12) 0) fun v13 =>
 doQ (aw (some v12) 1) fun v14 =>
 doQ (aw (some v12) 2) fun v15 =>
 doW (nRes H2 (⟨0,16,Heap.gen H2 0 16,0⟩:Ref) (cC env.P (⟨0,16,Heap.gen H2 0 16,0⟩:Ref) 24)) fun v16 H3 =>
 doW (az env.P H3 24 (some v16) (some v13)) fun v17 H4 =>
 doQ (qBin env.P .neq 25 (.tmp 78) (.const (.int .i64 0)) (some v7) (some (.v (.int .i64 0)))) fun v18 =>
 gQ v18 false (qVal (some v15)) fun v19 =>
 gQ v18 false (qBin env.P .neq 25 (.tmp 81) (.const (.int .i64 0)) (some v19) (some (.v (.int .i64 0)))) fun v20 =>
 doQ (bj (some v18) (some (.v (.bool true))) (some v20)) fun v21 =>
 br (some v21) (
 gQ x7 true (qVal (some x9)) fun v22 =>
 gQ x7 true (qBin env.P .eql 25 (.tmp 86) (.const (.int .i64 0)) (some v22) (some (.v (.int .i64 0)))) fun v23 =>
 doQ (bj (some x7) (some v23) (some (.v (.bool false)))) fun v24 =>
 gQ v24 true (qVal (some v7)) fun v25 =>
 gQ v24 true (qVal (some v15)) fun v26 =>
 gQ v24 true (qBin env.P .eql 25 (.tmp 90) (.tmp 91) (some v25) (some v26)) fun v27 =>
 doQ (bj (some v24) (some v27) (some (.v (.bool false)))) fun v28 =>
 Q v28 H4) (
 doQ (aq env.P (Heap.get H4) 24 (some v16)) fun v22 =>
 doW (az env.P H4 24 (some x8) (some v22)) fun v23 H5 =>
 doQ (qBin env.P .add 3 (.tmp 95) (.tmp 96) (some x12) (some v6)) fun v24 =>
 doQ (qBin env.P .neq 3 (.tmp 98) (.tmp 99) (some v14) (some v24)) fun v25 =>
 br (some v25) (
 Q (.v (.bool false)) H5) (
 doQ (qBin env.P .leq 3 (.tmp 101) (.tmp 102) (some v24) (some x1)) fun v26 =>
 br (some v26) (
 doQ (ay env.P (Heap.get H5) 50 (some x0) (some x13)) fun v27 =>
 doQ (aq env.P (Heap.get H5) 48 (some v27)) fun v28 =>
 doW (gb env.P false true H5 (⟨0,109,Heap.gen H5 0 109,0⟩:Ref) 50 1 (some [(0,v28)])) fun v29 H6 =>
 doW (bH env.P true H6 (⟨0,110,Heap.gen H6 0 110,0⟩:Ref) (some 50) (some 50) x10 v29) fun v30 H7 =>
 doQ (
  qBin env.P .add 3 (.tmp 55) (.const (.int .i64 1)) (some x13) (some (.v (.int .i64 1)))) fun v31 =>
  GoL env Try.f5 0 bI [(9,x9),(7,x7),(13,v31),(0,x0),(10,v30),(1,x1),(12,v24),(8,x8),(2,x2),(11,v24)] H7 Q) (
 doQ (
  qBin env.P .add 3 (.tmp 55) (.const (.int .i64 1)) (some x13) (some (.v (.int .i64 1)))) fun v27 =>
  GoL env Try.f5 0 bI [(9,x9),(7,x7),(13,v27),(0,x0),(10,x10),(1,x1),(12,v24),(8,x8),(2,x2),(11,x11)] H5 Q)))) (
 doQ (aq env.P (Heap.get H) 24 (some x8)) fun v3 =>
 doW (ao env true (limf env) (limt env 0) H (⟨0,115,Heap.gen H 0 115,0⟩:Ref) (some (.fn (.func 17) [] [])) [v3,x11,x10]) fun v4 H1 =>
 doQ (qUn env.P .not (some v4)) fun v5 =>
 gQ v5 false (ae env.P 24 (some x8) 3) fun v6 =>
 gQ v5 false (aq env.P (Heap.get H1) 4 (some v6)) fun v7 =>
 gQ v5 false (qVal (some x12)) fun v8 =>
 gQ v5 false (qVal (some x1)) fun v9 =>
 gQ v5 false (qBin env.P .gtr 3 (.tmp 120) (.tmp 121) (some v8) (some v9)) fun v10 =>
 gQ v5 false (qBin env.P .neq 4 (.tmp 119) (.tmp 122) (some v7) (some v10)) fun v11 =>
 doQ (bj (some v5) (some (.v (.bool true))) (some v11)) fun v12 =>
 br (some v12) (
 Q (.v (.bool false)) H1) (
 doQ (aq env.P (Heap.get H1) 24 (some x8)) fun v13 =>
 doW (ao env true (limf env) (limt env 0) H1 (⟨0,127,Heap.gen H1 0 127,0⟩:Ref) (some (.fn (.func 9) [] [])) [v13,(.v (.int .i64 (-1)))]) fun v14 H2 =>
 doQ (aw (some v14) 0) fun v15 =>
 doQ (aw (some v14) 1) fun v16 =>
 doW (nRes H2 (⟨0,19,Heap.gen H2 0 19,0⟩:Ref) (cC env.P (⟨0,19,Heap.gen H2 0 19,0⟩:Ref) 24)) fun v17 H3 =>
 doW (az env.P H3 24 (some v17) (some v15)) fun v18 H4 =>
 doQ (qBin env.P .neq 25 (.tmp 130) (.const (.int .i64 0)) (some v16) (some (.v (.int .i64 0)))) fun v19 =>
 gQ v19 false (aq env.P (Heap.get H4) 24 (some v17)) fun v20 =>
 gQ v19 false (qVal (some x11)) fun v21 =>
 gQ v19 false (qVal (some x10)) fun v22 =>
 gW v19 false H4 (ao env true (limf env) (limt env 0) H4 (⟨0,136,Heap.gen H4 0 136,0⟩:Ref) (some (.fn (.func 17) [] [])) [v20,v21,v22]) fun v23 H5 =>
 gQ v19 false (qUn env.P .not (some v23)) fun v24 =>
 doQ (bj (some v19) (some (.v (.bool true))) (some v24)) fun v25 =>
 br (some v25) (
 Q (.v (.bool false)) H5) (
  GoL env Try.f5 0 cI [(21,(.v (.int .i64 0))),(2,x2),(7,x7),(19,v17),(10,x10),(11,x11)] H5 Q)))
theorem lK:aV=fun g x9 x7 x13 x0 x10 x1 x12 x8 x2 x11 H Q=>wp env Try.f5 none 0 fE fF Q 500 (gf bI) (ofL g [(9,x9),(7,x7),(13,x13),(0,x0),(10,x10),(1,x1),(12,x12),(8,x8),(2,x2),(11,x11)]) H:=by kernel_rfl
theorem dK (x9 x7 x13 x0 x10 x1 x12 x8 x2 x11:AV) (H:Heap) (Q:AV→Heap→Prop) (h : ∀g,aV g x9 x7 x13 x0 x10 x1 x12 x8 x2 x11 H Q):GoL env Try.f5 0 bI [(9,x9),(7,x7),(13,x13),(0,x0),(10,x10),(1,x1),(12,x12),(8,x8),(2,x2),(11,x11)] H Q:=dC fun g=>bn (by have h:=h g;rw [lK] at h;exact h)
def aO (g:Nat→AV) (x21 x2 x7 x19 x10 x11:AV) (H:Heap) (Q:AV→Heap→Prop):Prop :=
 doQ (aC env.P false (Heap.get H) (⟨0,141,Heap.gen H 0 141,0⟩:Ref) .len #[50] [x2]) fun v1 =>
 doQ (qBin env.P .lss 3 (.tmp 139) (.tmp 141) (some x21) (some v1)) fun v2 =>
 br (some v2) (
 doQ (aq env.P (Heap.get H) 24 (some x19)) fun v3 =>
 doQ (aC env.P false (Heap.get H) (⟨0,149,Heap.gen H 0 149,0⟩:Ref) .len #[50] [x10]) fun v4 =>
 doQ (qBin env.P .add 3 (.tmp 149) (.const (.int .i64 1)) (some v4) (some (.v (.int .i64 1)))) fun v5 =>
 doQ (ay env.P (Heap.get H) 50 (some x2) (some x21)) fun v6 =>
 doQ (aq env.P (Heap.get H) 48 (some v6)) fun v7 =>
 doW (ao env false (limf env) (limt env 0) H (⟨0,155,Heap.gen H 0 155,0⟩:Ref) (some (.fn (.func 14) [] [])) [v3,(.v (.int .i64 0)),x11,v5,v7]) fun v8 H1 =>
 doQ (aw (some v8) 0) fun v9 =>
 doQ (aw (some v8) 1) fun v10 =>
 doQ (aw (some v8) 2) fun v11 =>
 doW (nRes H1 (⟨0,22,Heap.gen H1 0 22,0⟩:Ref) (cC env.P (⟨0,22,Heap.gen H1 0 22,0⟩:Ref) 24)) fun v12 H2 =>
 doW (az env.P H2 24 (some v12) (some v9)) fun v13 H3 =>
 doQ (qBin env.P .neq 25 (.tmp 159) (.const (.int .i64 0)) (some v11) (some (.v (.int .i64 0)))) fun v14 =>
 br (some v14) (
 gQ x7 true (qVal (some x2)) fun v15 =>
 gQ x7 true (qVal (some x21)) fun v16 =>
 gQ x7 true (ay env.P (Heap.get H3) 50 (some v15) (some v16)) fun v17 =>
 gQ x7 true (aq env.P (Heap.get H3) 48 (some v17)) fun v18 =>
 gW x7 true H3 (ao env true (limf env) (limt env 0) H3 (⟨0,167,Heap.gen H3 0 167,0⟩:Ref) (some (.fn (.func 21) [] [])) [v18]) fun v19 H4 =>
 gQ x7 true (qVal (some v11)) fun v20 =>
 gQ x7 true (qBin env.P .eql 25 (.tmp 167) (.tmp 168) (some v19) (some v20)) fun v21 =>
 doQ (bj (some x7) (some v21) (some (.v (.bool false)))) fun v22 =>
 Q v22 H4) (
 doQ (aq env.P (Heap.get H3) 24 (some v12)) fun v15 =>
 doW (az env.P H3 24 (some x19) (some v15)) fun v16 H4 =>
 doQ (ay env.P (Heap.get H4) 50 (some x2) (some x21)) fun v17 =>
 doQ (aq env.P (Heap.get H4) 48 (some v17)) fun v18 =>
 doW (gb env.P false true H4 (⟨0,178,Heap.gen H4 0 178,0⟩:Ref) 50 1 (some [(0,v18)])) fun v19 H5 =>
 doW (bH env.P true H5 (⟨0,179,Heap.gen H5 0 179,0⟩:Ref) (some 50) (some 50) x10 v19) fun v20 H6 =>
 doQ (aq env.P (Heap.get H6) 24 (some x19)) fun v21 =>
 doW (ao env true (limf env) (limt env 0) H6 (⟨0,183,Heap.gen H6 0 183,0⟩:Ref) (some (.fn (.func 17) [] [])) [v21,v10,v20]) fun v22 H7 =>
 doQ (qUn env.P .not (some v22)) fun v23 =>
 br (some v23) (
 Q (.v (.bool false)) H7) (
 doQ (qBin env.P .add 3 (.tmp 143) (.const (.int .i64 1)) (some x21) (some (.v (.int .i64 1)))) fun v24 =>
  GoL env Try.f5 0 cI [(21,v24),(2,x2),(7,x7),(19,x19),(10,v20),(11,v10)] H7 Q))) (
 Q x7 H)
theorem k9:aO=fun g x21 x2 x7 x19 x10 x11 H Q=>wp env Try.f5 none 0 fE fF Q 500 (gf cI) (ofL g [(21,x21),(2,x2),(7,x7),(19,x19),(10,x10),(11,x11)]) H:=by kernel_rfl
theorem eJ (x21 x2 x7 x19 x10 x11:AV) (H:Heap) (Q:AV→Heap→Prop) (h : ∀g,aO g x21 x2 x7 x19 x10 x11 H Q):GoL env Try.f5 0 cI [(21,x21),(2,x2),(7,x7),(19,x19),(10,x10),(11,x11)] H Q:=dC fun g=>bn (by have h:=h g;rw [k9] at h;exact h)
end Go.Proofs.Ytmjkpdknicjjgaa
