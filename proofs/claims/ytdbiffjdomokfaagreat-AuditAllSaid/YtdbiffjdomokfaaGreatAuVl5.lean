/-
  What is to be shown of each function, computed from its code. No statement of a seat is proved here.
-/
import Derived.Test.YtdbiffjdomokfaaGreatAuTy
set_option linter.unusedVariables false
set_option maxRecDepth 1000000
namespace Go.Proofs.YtdbiffjdomokfaaGreat
open Go.Ab
noncomputable def fa:Code:=(Tryz.f5.body).getD .skip
noncomputable def dN:List Item:=(bY 12 400 [.code fa]).getD []
noncomputable def cJ:List Item:=(bY 21 400 [.code fa]).getD []
def hY:Nat→Option (List Nat):=fun i=>cond (Nat.beq i 12) (some [16,15,14,1,8,5,12,10,7]) (cond (Nat.beq i 21) (some [18,8,17,5,15,12,10,14,7]) (none))
def ia:Nat→Bool:=fun i=>false
def ew(g:Nat→AV)(x0 x1 x2:AV)(H:ab)(Q:AV→ab→Prop):Prop :=
 aO (zac H 3 29 x0) fun v1 H1 =>
 aO (zac H1 5 35 x2) fun v2 H2 =>
 aO (zaa true H2 19 12 []) fun v3 H3 =>
 ak (zab H3 29 v1) fun v4 =>
 aO (zaa true H3 22 13 [v4,x1,(.v (.int .i64 25))]) fun v5 H4 =>
 gQ v5 false (zbi v3) fun v6 =>
 gQ v5 false (zbg v6) fun v7 =>
 ak (zal v5 v7) fun v8 =>
 br (some v8) (
 Q v3 H4) (
 ak (zab H4 29 v1) fun v9 =>
 aO (zaa false H4 31 19 []) fun v10 H5 =>
 aO (zaa false H5 32 10 [v9,x1,v10]) fun v11 H6 =>
 ak (zbd v11 0) fun v12 =>
 ak (zbd v11 1) fun v13 =>
 ak (zab H6 29 v1) fun v14 =>
 ak (zab H6 35 v2) fun v15 =>
 aO (zaa true H6 39 10 [v14,x1,v15]) fun v16 H7 =>
 ak (zbd v16 0) fun v17 =>
 ak (zbd v16 1) fun v18 =>
 ak (zab H7 29 v1) fun v19 =>
 ak (zab H7 35 v2) fun v20 =>
 aO (zaa true H7 46 7 [v19,x1,v20]) fun v21 H8 =>
 ak (zbd v21 0) fun v22 =>
 ak (zbd v21 1) fun v23 =>
 aO (zaj H8 12 22) fun v24 H9 =>
 aO (zam H9 22 v24 v22) fun v25 H10 =>
 ak (zaf 23 49 0 v13) fun v26 =>
 gQ v26 false (zbi v18) fun v27 =>
 gQ v26 false (zaf 23 52 0 v27) fun v28 =>
 ak (zal v26 v28) fun v29 =>
 gQ v29 false (zbi v23) fun v30 =>
 gQ v29 false (zaf 23 56 0 v30) fun v31 =>
 ak (zal v29 v31) fun v32 =>
 br (some v32) (
 gQ v3 true (zbi v18) fun v33 =>
 gQ v3 true (zbi v23) fun v34 =>
 gQ v3 true (zap 23 61 62 v33 v34) fun v35 =>
 ak (zag v3 v35) fun v36 =>
 Q v36 H10) (
  bP env Tryz.f5 0 dN [(16,(.v (.int .i64 0))),(15,(.v (.int .i64 0))),(14,(.v (.int .i64 0))),(1,x1),(8,v12),(5,v2),(12,v24),(10,v17),(7,v3)] H10 Q))
theorem pw(x0 x1 x2:AV)(H:ab)(Q:AV→ab→Prop)(h : ∀g,ew g x0 x1 x2 H Q):bP env Tryz.f5 0 [.code fa] [(0,x0),(1,x1),(2,x2)] H Q:=⟨fun g=>aV (live:=hY) (cut:=ia) (n:=500) (Eq.mp (by kernel_rfl) (h g))⟩
def eL(g:Nat→AV)(x16 x15 x14 x1 x8 x5 x12 x10 x7:AV)(H:ab)(Q:AV→ab→Prop):Prop :=
 ak (zah H 67 31 x1) fun v1 =>
 ak (zan 3 65 67 x16 v1) fun v2 =>
 br (some v2) (
 ak (zau H 31 x1 x16) fun v3 =>
 ak (zad 56 v3 0) fun v4 =>
 ak (zab H 5 v4) fun v5 =>
 ak (zbl 5 75 v5) fun v6 =>
 br (some v6) (
 ak (zae 3 77 1 x15) fun v7 =>
 ak (zae 3 69 1 x16) fun v8 =>
  bP env Tryz.f5 0 dN [(16,v8),(15,v7),(14,x14),(1,x1),(8,x8),(5,x5),(12,x12),(10,x10),(7,x7)] H Q) (
 ak (zah H 81 36 x8) fun v7 =>
 ak (zbq 3 79 81 x14 v7) fun v8 =>
 gQ v8 false (zbi x8) fun v9 =>
 gQ v8 false (zbi x14) fun v10 =>
 gQ v8 false (zau H 36 v9 v10) fun v11 =>
 gQ v8 false (zab H 67 v11) fun v12 =>
 gQ v8 false (zbi x1) fun v13 =>
 gQ v8 false (zbi x16) fun v14 =>
 gQ v8 false (zau H 31 v13 v14) fun v15 =>
 gQ v8 false (zad 56 v15 2) fun v16 =>
 gQ v8 false (zad 50 v16 1) fun v17 =>
 gQ v8 false (zab H 40 v17) fun v18 =>
 gQ v8 false (zbi x1) fun v19 =>
 gQ v8 false (zbi x16) fun v20 =>
 gQ v8 false (zau H 31 v19 v20) fun v21 =>
 gQ v8 false (zad 56 v21 2) fun v22 =>
 gQ v8 false (zad 50 v22 2) fun v23 =>
 gQ v8 false (zab H 3 v23) fun v24 =>
 gQ v8 false (zbi x1) fun v25 =>
 gQ v8 false (zbi x16) fun v26 =>
 gQ v8 false (zau H 31 v25 v26) fun v27 =>
 gQ v8 false (zad 56 v27 3) fun v28 =>
 gQ v8 false (zab H 23 v28) fun v29 =>
 gQ v8 false (cy env.P 67 (some [(0,v18),(1,v24),(2,v29)])) fun v30 =>
 gQ v8 false (zbc 67 87 105 v12 v30) fun v31 =>
 ak (zal v8 v31) fun v32 =>
 br (some v32) (
 Q (.v (.bool false)) H) (
 ak (zae 3 108 1 x14) fun v33 =>
 ak (
  aE env.P .add 3 (Operand.tmp 69) (Operand.const (Value.int IntKind.i64 1)) (some x16) (some (AV.v (Value.int IntKind.i64 1)))) fun v34 =>
  bP env Tryz.f5 0 dN [(16,v34),(15,x15),(14,v33),(1,x1),(8,x8),(5,x5),(12,x12),(10,x10),(7,x7)] H Q))) (
  bP env Tryz.f5 0 cJ [(18,(.v (.int .i64 0))),(8,x8),(17,(.v (.slice none 0 0))),(5,x5),(15,x15),(12,x12),(10,x10),(14,x14),(7,x7)] H Q)
theorem fX(x16 x15 x14 x1 x8 x5 x12 x10 x7:AV)(H:ab)(Q:AV→ab→Prop)(h : ∀g,eL g x16 x15 x14 x1 x8 x5 x12 x10 x7 H Q):bP env Tryz.f5 0 dN [(16,x16),(15,x15),(14,x14),(1,x1),(8,x8),(5,x5),(12,x12),(10,x10),(7,x7)] H Q:=cU fun g=>aV (live:=hY) (cut:=ia) (n:=500) (Eq.mp (by kernel_rfl) (h g))
def cK(g:Nat→AV)(x18 x8 x17 x5 x15 x12 x10 x14 x7:AV)(H:ab)(Q:AV→ab→Prop):Prop :=
 ak (zah H 112 36 x8) fun v1 =>
 ak (zan 3 110 112 x18 v1) fun v2 =>
 br (some v2) (
 ak (zau H 36 x8 x18) fun v3 =>
 ak (zad 67 v3 0) fun v4 =>
 ak (zad 40 v4 0) fun v5 =>
 ak (zab H 35 v5) fun v6 =>
 ak (zab H 35 x5) fun v7 =>
 aO (zaa false H 123 20 [v6,v7]) fun v8 H1 =>
 br (some v8) (
 ak (zau H1 36 x8 x18) fun v9 =>
 ak (zab H1 67 v9) fun v10 =>
 aO (zaw H1 129 36 1 0 v10) fun v11 H2 =>
 aO (zas H2 130 36 36 x17 v11) fun v12 H3 =>
 ak (zae 3 114 1 x18) fun v13 =>
  bP env Tryz.f5 0 cJ [(18,v13),(8,x8),(17,v12),(5,x5),(15,x15),(12,x12),(10,x10),(14,x14),(7,x7)] H3 Q) (
 ak (zae 3 114 1 x18) fun v9 =>
  bP env Tryz.f5 0 cJ [(18,v9),(8,x8),(17,x17),(5,x5),(15,x15),(12,x12),(10,x10),(14,x14),(7,x7)] H1 Q)) (
 gQ x7 true (zbi x14) fun v3 =>
 gQ x7 true (zbi x8) fun v4 =>
 gQ x7 true (zah H 135 36 v4) fun v5 =>
 gQ x7 true (zap 3 133 135 v3 v5) fun v6 =>
 ak (zag x7 v6) fun v7 =>
 gQ v7 true (zbi x17) fun v8 =>
 gQ v7 true (zbi x10) fun v9 =>
 gW v7 true H (zaa true H 141 17 [v8,v9]) fun v10 H1 =>
 ak (zag v7 v10) fun v11 =>
 gQ v11 true (zav H1 22 x12 0) fun v12 =>
 gQ v11 true (zab H1 3 v12) fun v13 =>
 gQ v11 true (zav H1 22 x12 1) fun v14 =>
 gQ v11 true (zab H1 3 v14) fun v15 =>
 gQ v11 true (zba 3 145 147 v13 v15) fun v16 =>
 gQ v11 true (zav H1 22 x12 2) fun v17 =>
 gQ v11 true (zab H1 3 v17) fun v18 =>
 gQ v11 true (zba 3 148 150 v16 v18) fun v19 =>
 gQ v11 true (zbi x10) fun v20 =>
 gQ v11 true (zah H1 153 36 v20) fun v21 =>
 gQ v11 true (zap 3 151 153 v19 v21) fun v22 =>
 ak (zag v11 v22) fun v23 =>
 gQ v23 true (zav H1 22 x12 3) fun v24 =>
 gQ v23 true (zab H1 3 v24) fun v25 =>
 gQ v23 true (zbi x15) fun v26 =>
 gQ v23 true (zap 3 158 159 v25 v26) fun v27 =>
 ak (zag v23 v27) fun v28 =>
 Q v28 H1)
theorem fW(x18 x8 x17 x5 x15 x12 x10 x14 x7:AV)(H:ab)(Q:AV→ab→Prop)(h : ∀g,cK g x18 x8 x17 x5 x15 x12 x10 x14 x7 H Q):bP env Tryz.f5 0 cJ [(18,x18),(8,x8),(17,x17),(5,x5),(15,x15),(12,x12),(10,x10),(14,x14),(7,x7)] H Q:=cU fun g=>aV (live:=hY) (cut:=ia) (n:=500) (Eq.mp (by kernel_rfl) (h g))
end Go.Proofs.YtdbiffjdomokfaaGreat
