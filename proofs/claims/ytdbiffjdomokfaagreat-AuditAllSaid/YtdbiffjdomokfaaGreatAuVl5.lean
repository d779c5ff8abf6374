/-
  What is to be shown of each function, computed from its code. No statement of a seat is proved here.
-/
import Derived.Test.YtdbiffjdomokfaaGreatAuTy
set_option linter.unusedVariables false
set_option maxRecDepth 1000000
namespace Go.Proofs.YtdbiffjdomokfaaGreat
open Go.Ab
local notation:max "©" b:max h:max n:max f:max a:max=>bn env b (bj env) (bU env 0) h (Ref.mk 0 n (ab.gen h 0 n) 0) (some (AV.fn (Fn.func f) [] [])) a
local notation:max "§" h:max n:max=>Ref.mk 0 n (ab.gen h 0 n) 0
local notation:max "~" a:max=>some a
local notation:max "¥" h:max=>ab.get h
local notation:max "¤" n:max=>(Operand.const (Value.int IntKind.i64 n))
local notation:max "£" n:max=>some (AV.v (Value.int IntKind.i64 n))
local notation:max "¡" => some (AV.v (Value.bool true))
local notation:max "¿" => some (AV.v (Value.bool false))
local notation:max "°" n:max=>(Operand.tmp n)
local notation:max "¢" => env.P
noncomputable def fa:Code:=(Tryz.f5.body).getD .skip
noncomputable def dN:List Item:=(bY 12 400 [.code fa]).getD []
noncomputable def cJ:List Item:=(bY 21 400 [.code fa]).getD []
def hY:Nat→Option (List Nat):=fun i=>cond (Nat.beq i 12) (some [16,15,14,1,8,5,12,10,7]) (cond (Nat.beq i 21) (some [18,8,17,5,15,12,10,14,7]) (none))
def ia:Nat→Bool:=fun i=>false
def ew(g:Nat→AV)(x0 x1 x2:AV)(H:ab)(Q:AV→ab→Prop):Prop :=
 aO (bl H §H 3 (cB ¢ §H 3 29 ~x0)) fun v1 H1 =>
 aO (bl H1 §H1 5 (cB ¢ §H1 5 35 ~x2)) fun v2 H2 =>
 aO (©true H2 19 12 []) fun v3 H3 =>
 ak (aj ¢ ¥H3 29 ~v1) fun v4 =>
 aO (©true H3 22 13 [v4,x1,(.v (.int .i64 25))]) fun v5 H4 =>
 gQ v5 false (cf ~v3) fun v6 =>
 gQ v5 false (xj ¢ .not ~v6) fun v7 =>
 ak (bp ~v5 ¡ ~v7) fun v8 =>
 br ~v8 (
 Q v3 H4) (
 ak (aj ¢ ¥H4 29 ~v1) fun v9 =>
 aO (©false H4 31 19 []) fun v10 H5 =>
 aO (©false H5 32 10 [v9,x1,v10]) fun v11 H6 =>
 ak (aJ ~v11 0) fun v12 =>
 ak (aJ ~v11 1) fun v13 =>
 ak (aj ¢ ¥H6 29 ~v1) fun v14 =>
 ak (aj ¢ ¥H6 35 ~v2) fun v15 =>
 aO (©true H6 39 10 [v14,x1,v15]) fun v16 H7 =>
 ak (aJ ~v16 0) fun v17 =>
 ak (aJ ~v16 1) fun v18 =>
 ak (aj ¢ ¥H7 29 ~v1) fun v19 =>
 ak (aj ¢ ¥H7 35 ~v2) fun v20 =>
 aO (©true H7 46 7 [v19,x1,v20]) fun v21 H8 =>
 ak (aJ ~v21 0) fun v22 =>
 ak (aJ ~v21 1) fun v23 =>
 aO (bl H8 §H8 12 (bX ¢ §H8 12 22)) fun v24 H9 =>
 aO (aW ¢ H9 22 ~v24 ~v22) fun v25 H10 =>
 ak (aE ¢ .neq 23 °49 ¤0 ~v13 £0) fun v26 =>
 gQ v26 false (cf ~v18) fun v27 =>
 gQ v26 false (aE ¢ .neq 23 °52 ¤0 ~v27 £0) fun v28 =>
 ak (bp ~v26 ¡ ~v28) fun v29 =>
 gQ v29 false (cf ~v23) fun v30 =>
 gQ v29 false (aE ¢ .neq 23 °56 ¤0 ~v30 £0) fun v31 =>
 ak (bp ~v29 ¡ ~v31) fun v32 =>
 br ~v32 (
 gQ v3 true (cf ~v18) fun v33 =>
 gQ v3 true (cf ~v23) fun v34 =>
 gQ v3 true (aE ¢ .eql 23 °61 °62 ~v33 ~v34) fun v35 =>
 ak (bp ~v3 ~v35 ¿) fun v36 =>
 Q v36 H10) (
  bP env Tryz.f5 0 dN [(16,(.v (.int .i64 0))),(15,(.v (.int .i64 0))),(14,(.v (.int .i64 0))),(1,x1),(8,v12),(5,v2),(12,v24),(10,v17),(7,v3)] H10 Q))
theorem pw(x0 x1 x2:AV)(H:ab)(Q:AV→ab→Prop)(h : ∀g,ew g x0 x1 x2 H Q):bP env Tryz.f5 0 [.code fa] [(0,x0),(1,x1),(2,x2)] H Q:=⟨fun g=>aV (live:=hY) (cut:=ia) (n:=500) (Eq.mp (by kernel_rfl) (h g))⟩
def eL(g:Nat→AV)(x16 x15 x14 x1 x8 x5 x12 x10 x7:AV)(H:ab)(Q:AV→ab→Prop):Prop :=
 ak (aK ¢ false ¥H §H 67 .len #[31] [x1]) fun v1 =>
 ak (aE ¢ .lss 3 °65 °67 ~x16 ~v1) fun v2 =>
 br ~v2 (
 ak (aH ¢ ¥H 31 ~x1 ~x16) fun v3 =>
 ak (aa ¢ 56 ~v3 0) fun v4 =>
 ak (aj ¢ ¥H 5 ~v4) fun v5 =>
 ak (aE ¢ .eql 5 °75 (.const (.int .u8 3)) ~v5 (some (a8 3))) fun v6 =>
 br ~v6 (
 ak (aE ¢ .add 3 °77 ¤1 ~x15 £1) fun v7 =>
 ak (aE ¢ .add 3 °69 ¤1 ~x16 £1) fun v8 =>
  bP env Tryz.f5 0 dN [(16,v8),(15,v7),(14,x14),(1,x1),(8,x8),(5,x5),(12,x12),(10,x10),(7,x7)] H Q) (
 ak (aK ¢ false ¥H §H 81 .len #[36] [x8]) fun v7 =>
 ak (aE ¢ .geq 3 °79 °81 ~x14 ~v7) fun v8 =>
 gQ v8 false (cf ~x8) fun v9 =>
 gQ v8 false (cf ~x14) fun v10 =>
 gQ v8 false (aH ¢ ¥H 36 ~v9 ~v10) fun v11 =>
 gQ v8 false (aj ¢ ¥H 67 ~v11) fun v12 =>
 gQ v8 false (cf ~x1) fun v13 =>
 gQ v8 false (cf ~x16) fun v14 =>
 gQ v8 false (aH ¢ ¥H 31 ~v13 ~v14) fun v15 =>
 gQ v8 false (aa ¢ 56 ~v15 2) fun v16 =>
 gQ v8 false (aa ¢ 50 ~v16 1) fun v17 =>
 gQ v8 false (aj ¢ ¥H 40 ~v17) fun v18 =>
 gQ v8 false (cf ~x1) fun v19 =>
 gQ v8 false (cf ~x16) fun v20 =>
 gQ v8 false (aH ¢ ¥H 31 ~v19 ~v20) fun v21 =>
 gQ v8 false (aa ¢ 56 ~v21 2) fun v22 =>
 gQ v8 false (aa ¢ 50 ~v22 2) fun v23 =>
 gQ v8 false (aj ¢ ¥H 3 ~v23) fun v24 =>
 gQ v8 false (cf ~x1) fun v25 =>
 gQ v8 false (cf ~x16) fun v26 =>
 gQ v8 false (aH ¢ ¥H 31 ~v25 ~v26) fun v27 =>
 gQ v8 false (aa ¢ 56 ~v27 3) fun v28 =>
 gQ v8 false (aj ¢ ¥H 23 ~v28) fun v29 =>
 gQ v8 false (cy ¢ 67 (some [(0,v18),(1,v24),(2,v29)])) fun v30 =>
 gQ v8 false (aE ¢ .neq 67 °87 °105 ~v12 ~v30) fun v31 =>
 ak (bp ~v8 ¡ ~v31) fun v32 =>
 br ~v32 (
 Q (.v (.bool false)) H) (
 ak (aE ¢ .add 3 °108 ¤1 ~x14 £1) fun v33 =>
 ak (
  aE ¢ .add 3 °69 ¤1 ~x16 £1) fun v34 =>
  bP env Tryz.f5 0 dN [(16,v34),(15,x15),(14,v33),(1,x1),(8,x8),(5,x5),(12,x12),(10,x10),(7,x7)] H Q))) (
  bP env Tryz.f5 0 cJ [(18,(.v (.int .i64 0))),(8,x8),(17,(.v (.slice none 0 0))),(5,x5),(15,x15),(12,x12),(10,x10),(14,x14),(7,x7)] H Q)
theorem fX(x16 x15 x14 x1 x8 x5 x12 x10 x7:AV)(H:ab)(Q:AV→ab→Prop)(h : ∀g,eL g x16 x15 x14 x1 x8 x5 x12 x10 x7 H Q):bP env Tryz.f5 0 dN [(16,x16),(15,x15),(14,x14),(1,x1),(8,x8),(5,x5),(12,x12),(10,x10),(7,x7)] H Q:=cU fun g=>aV (live:=hY) (cut:=ia) (n:=500) (Eq.mp (by kernel_rfl) (h g))
def cK(g:Nat→AV)(x18 x8 x17 x5 x15 x12 x10 x14 x7:AV)(H:ab)(Q:AV→ab→Prop):Prop :=
 ak (aK ¢ false ¥H §H 112 .len #[36] [x8]) fun v1 =>
 ak (aE ¢ .lss 3 °110 °112 ~x18 ~v1) fun v2 =>
 br ~v2 (
 ak (aH ¢ ¥H 36 ~x8 ~x18) fun v3 =>
 ak (aa ¢ 67 ~v3 0) fun v4 =>
 ak (aa ¢ 40 ~v4 0) fun v5 =>
 ak (aj ¢ ¥H 35 ~v5) fun v6 =>
 ak (aj ¢ ¥H 35 ~x5) fun v7 =>
 aO (©false H 123 20 [v6,v7]) fun v8 H1 =>
 br ~v8 (
 ak (aH ¢ ¥H1 36 ~x8 ~x18) fun v9 =>
 ak (aj ¢ ¥H1 67 ~v9) fun v10 =>
 aO (eX ¢ false true H1 §H1 129 36 1 (some [(0,v10)])) fun v11 H2 =>
 aO (cQ ¢ true H2 §H2 130 (some 36) (some 36) x17 v11) fun v12 H3 =>
 ak (aE ¢ .add 3 °114 ¤1 ~x18 £1) fun v13 =>
  bP env Tryz.f5 0 cJ [(18,v13),(8,x8),(17,v12),(5,x5),(15,x15),(12,x12),(10,x10),(14,x14),(7,x7)] H3 Q) (
 ak (aE ¢ .add 3 °114 ¤1 ~x18 £1) fun v9 =>
  bP env Tryz.f5 0 cJ [(18,v9),(8,x8),(17,x17),(5,x5),(15,x15),(12,x12),(10,x10),(14,x14),(7,x7)] H1 Q)) (
 gQ x7 true (cf ~x14) fun v3 =>
 gQ x7 true (cf ~x8) fun v4 =>
 gQ x7 true (aK ¢ false ¥H §H 135 .len #[36] [v4]) fun v5 =>
 gQ x7 true (aE ¢ .eql 3 °133 °135 ~v3 ~v5) fun v6 =>
 ak (bp ~x7 ~v6 ¿) fun v7 =>
 gQ v7 true (cf ~x17) fun v8 =>
 gQ v7 true (cf ~x10) fun v9 =>
 gW v7 true H (©true H 141 17 [v8,v9]) fun v10 H1 =>
 ak (bp ~v7 ~v10 ¿) fun v11 =>
 gQ v11 true (aH ¢ ¥H1 22 ~x12 £0) fun v12 =>
 gQ v11 true (aj ¢ ¥H1 3 ~v12) fun v13 =>
 gQ v11 true (aH ¢ ¥H1 22 ~x12 £1) fun v14 =>
 gQ v11 true (aj ¢ ¥H1 3 ~v14) fun v15 =>
 gQ v11 true (aE ¢ .add 3 °145 °147 ~v13 ~v15) fun v16 =>
 gQ v11 true (aH ¢ ¥H1 22 ~x12 £2) fun v17 =>
 gQ v11 true (aj ¢ ¥H1 3 ~v17) fun v18 =>
 gQ v11 true (aE ¢ .add 3 °148 °150 ~v16 ~v18) fun v19 =>
 gQ v11 true (cf ~x10) fun v20 =>
 gQ v11 true (aK ¢ false ¥H1 §H1 153 .len #[36] [v20]) fun v21 =>
 gQ v11 true (aE ¢ .eql 3 °151 °153 ~v19 ~v21) fun v22 =>
 ak (bp ~v11 ~v22 ¿) fun v23 =>
 gQ v23 true (aH ¢ ¥H1 22 ~x12 £3) fun v24 =>
 gQ v23 true (aj ¢ ¥H1 3 ~v24) fun v25 =>
 gQ v23 true (cf ~x15) fun v26 =>
 gQ v23 true (aE ¢ .eql 3 °158 °159 ~v25 ~v26) fun v27 =>
 ak (bp ~v23 ~v27 ¿) fun v28 =>
 Q v28 H1)
theorem fW(x18 x8 x17 x5 x15 x12 x10 x14 x7:AV)(H:ab)(Q:AV→ab→Prop)(h : ∀g,cK g x18 x8 x17 x5 x15 x12 x10 x14 x7 H Q):bP env Tryz.f5 0 cJ [(18,x18),(8,x8),(17,x17),(5,x5),(15,x15),(12,x12),(10,x10),(14,x14),(7,x7)] H Q:=cU fun g=>aV (live:=hY) (cut:=ia) (n:=500) (Eq.mp (by kernel_rfl) (h g))
end Go.Proofs.YtdbiffjdomokfaaGreat
