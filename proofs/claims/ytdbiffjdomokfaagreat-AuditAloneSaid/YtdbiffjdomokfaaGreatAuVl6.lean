/-
  What is to be shown of each function, computed from its code. No statement of a seat is proved here.
-/
import Derived.Test.YtdbiffjdomokfaaGreatAuTy
set_option linter.unusedVariables false
set_option maxRecDepth 1000000
namespace Go.Proofs.YtdbiffjdomokfaaGreat
open Go.Ab
local notation:max "©" b:max h:max n:max f:max a:max=>bo env b (bj env) (bV env 0) h (Ref.mk 0 n (ab.gen h 0 n) 0) (some (AV.fn (Fn.func f) [] [])) a
local notation:max "§" h:max n:max=>Ref.mk 0 n (ab.gen h 0 n) 0
local notation:max "~" a:max=>some a
local notation:max "¥" h:max=>ab.get h
local notation:max "¤" n:max=>(Operand.const (Value.int IntKind.i64 n))
local notation:max "£" n:max=>some (AV.v (Value.int IntKind.i64 n))
local notation:max "¡" => some (AV.v (Value.bool true))
local notation:max "¿" => some (AV.v (Value.bool false))
local notation:max "°" n:max=>(Operand.tmp n)
local notation:max "¢" => env.P
noncomputable def gH:Code:=(Tryz.f6.body).getD .skip
noncomputable def cG:List Item:=(b7 15 400 [.code gH]).getD []
def ke:Nat→Option (List Nat):=fun i=>cond (Nat.beq i 15) (some [9,21,1,3,20,12,6,4]) (none)
def kf:Nat→Bool:=fun i=>false
def cC(g:Nat→AV)(x0 x1 x2 x3:AV)(H:ab)(Q:AV→ab→Prop):Prop :=
 aO (bm H §H 4 (cD ¢ §H 4 29 ~x0)) fun v1 H1 =>
 aO (bm H1 §H1 6 (cD ¢ §H1 6 35 ~x2)) fun v2 H2 =>
 aO (©true H2 24 12 []) fun v3 H3 =>
 ak (aj ¢ ¥H3 29 ~v1) fun v4 =>
 aO (©true H3 27 13 [v4,x1,(.v (.int .i64 25))]) fun v5 H4 =>
 gQ v5 false (cF ~x3) fun v6 =>
 gQ v5 false (aJ ¢ false ¥H4 §H4 30 .len #[48] [v6]) fun v7 =>
 gQ v5 false (aE ¢ .lss 3 °30 ¤64 ~v7 £64) fun v8 =>
 ak (bq ~v5 ¡ ~v8) fun v9 =>
 gQ v9 false (cF ~v3) fun v10 =>
 gQ v9 false (wM ¢ .not ~v10) fun v11 =>
 ak (bq ~v9 ¡ ~v11) fun v12 =>
 br ~v12 (
 Q v3 H4) (
 ak (aj ¢ ¥H4 29 ~v1) fun v13 =>
 ak (aj ¢ ¥H4 35 ~v2) fun v14 =>
 aO (©true H4 42 21 [v13,x1,v14]) fun v15 H5 =>
 ak (aF ~v15 0) fun v16 =>
 ak (aF ~v15 1) fun v17 =>
 ak (aE ¢ .neq 23 °45 ¤0 ~v17 £0) fun v18 =>
 br ~v18 (
 Q v3 H5) (
 ak (aj ¢ ¥H5 29 ~v1) fun v19 =>
 ak (aj ¢ ¥H5 35 ~v2) fun v20 =>
 aO (©true H5 52 10 [v19,x1,v20]) fun v21 H6 =>
 ak (aF ~v21 0) fun v22 =>
 ak (aF ~v21 1) fun v23 =>
 ak (aj ¢ ¥H6 29 ~v1) fun v24 =>
 ak (aj ¢ ¥H6 35 ~v2) fun v25 =>
 aO (©true H6 59 10 [v24,v16,v25]) fun v26 H7 =>
 ak (aF ~v26 0) fun v27 =>
 ak (aF ~v26 1) fun v28 =>
 ak (aj ¢ ¥H7 29 ~v1) fun v29 =>
 ak (aj ¢ ¥H7 35 ~v2) fun v30 =>
 aO (©true H7 66 7 [v29,x1,v30]) fun v31 H8 =>
 ak (aF ~v31 0) fun v32 =>
 ak (aF ~v31 1) fun v33 =>
 aO (bm H8 §H8 16 (bY ¢ §H8 16 22)) fun v34 H9 =>
 aO (aT ¢ H9 22 ~v34 ~v32) fun v35 H10 =>
 ak (aj ¢ ¥H10 29 ~v1) fun v36 =>
 ak (aj ¢ ¥H10 35 ~v2) fun v37 =>
 aO (©true H10 73 7 [v36,v16,v37]) fun v38 H11 =>
 ak (aF ~v38 0) fun v39 =>
 ak (aF ~v38 1) fun v40 =>
 aO (bm H11 §H11 18 (bY ¢ §H11 18 22)) fun v41 H12 =>
 aO (aT ¢ H12 22 ~v41 ~v39) fun v42 H13 =>
 aO (©true H13 78 17 [v22,v27]) fun v43 H14 =>
 ak (wM ¢ .not ~v43) fun v44 =>
 gQ v44 false (cF ~v23) fun v45 =>
 gQ v44 false (cF ~v28) fun v46 =>
 gQ v44 false (aE ¢ .neq 23 °81 °82 ~v45 ~v46) fun v47 =>
 ak (bq ~v44 ¡ ~v47) fun v48 =>
 gQ v48 false (aj ¢ ¥H14 22 ~v34) fun v49 =>
 gQ v48 false (aj ¢ ¥H14 22 ~v41) fun v50 =>
 gQ v48 false (aE ¢ .neq 22 °86 °87 ~v49 ~v50) fun v51 =>
 ak (bq ~v48 ¡ ~v51) fun v52 =>
 gQ v52 false (cF ~v33) fun v53 =>
 gQ v52 false (cF ~v40) fun v54 =>
 gQ v52 false (aE ¢ .neq 23 °91 °92 ~v53 ~v54) fun v55 =>
 ak (bq ~v52 ¡ ~v55) fun v56 =>
 br ~v56 (
 Q (.v (.bool false)) H14) (
 aO (
  cS ¢ true H14 §H14 96 (some 31) (some 31) (.v (.slice none 0 0)) x1) fun v57 H15 =>
  bT env Tryz.f6 0 cG [(9,v3),(21,(.v (.int .i64 0))),(1,x1),(3,x3),(20,v57),(12,v22),(6,v2),(4,v1)] H15 Q)))
theorem pb(x0 x1 x2 x3:AV)(H:ab)(Q:AV→ab→Prop)(h : ∀g,cC g x0 x1 x2 x3 H Q):bT env Tryz.f6 0 [.code gH] [(0,x0),(1,x1),(2,x2),(3,x3)] H Q:=⟨fun g=>aX (live:=ke) (cut:=kf) (n:=500) (Eq.mp (by kernel_rfl) (h g))⟩
def cI(g:Nat→AV)(x9 x21 x1 x3 x20 x12 x6 x4:AV)(H:ab)(Q:AV→ab→Prop):Prop :=
 ak (aJ ¢ false ¥H §H 99 .len #[31] [x20]) fun v1 =>
 ak (aE ¢ .lss 3 °97 °99 ~x21 ~v1) fun v2 =>
 br ~v2 (
 ak (aM ¢ ¥H 31 ~x1 ~x21) fun v3 =>
 ak (aa ¢ 56 ~v3 2) fun v4 =>
 ak (aa ¢ 50 ~v4 6) fun v5 =>
 ak (aj ¢ ¥H 48 ~v5) fun v6 =>
 ak (aJ ¢ false ¥H §H 109 .len #[48] [v6]) fun v7 =>
 ak (aJ ¢ false ¥H §H 111 .len #[48] [x3]) fun v8 =>
 ak (aE ¢ .gtr 3 °109 °111 ~v7 ~v8) fun v9 =>
 br ~v9 (
 Q x9 H) (
 ak (aM ¢ ¥H 31 ~x1 ~x21) fun v10 =>
 ak (aa ¢ 56 ~v10 2) fun v11 =>
 ak (aa ¢ 50 ~v11 6) fun v12 =>
 ak (aj ¢ ¥H 48 ~v12) fun v13 =>
 ak (aJ ¢ false ¥H §H 123 .len #[48] [v13]) fun v14 =>
 ak (eQ ¢ ¥H 48 ~x3 (some none) (oi v14) (some none)) fun v15 =>
 aO (cS ¢ true H §H 125 (some 48) (some 48) (.v (.slice none 0 0)) v15) fun v16 H1 =>
 ak (aM ¢ ¥H1 31 ~x20 ~x21) fun v17 =>
 ak (aa ¢ 56 ~v17 2) fun v18 =>
 ak (aa ¢ 50 ~v18 6) fun v19 =>
 aO (aT ¢ H1 48 ~v19 ~v16) fun v20 H2 =>
 ak (aE ¢ .add 3 °101 ¤1 ~x21 £1) fun v21 =>
  bT env Tryz.f6 0 cG [(9,x9),(21,v21),(1,x1),(3,x3),(20,x20),(12,x12),(6,x6),(4,x4)] H2 Q)) (
 ak (aj ¢ ¥H 29 ~x4) fun v3 =>
 aO (©true H 131 22 [v3,x20]) fun v4 H1 =>
 ak (aE ¢ .neq 23 °131 ¤0 ~v4 £0) fun v5 =>
 br ~v5 (
 Q x9 H1) (
 ak (aj ¢ ¥H1 29 ~x4) fun v6 =>
 ak (aj ¢ ¥H1 35 ~x6) fun v7 =>
 aO (©true H1 138 10 [v6,x20,v7]) fun v8 H2 =>
 ak (aF ~v8 0) fun v9 =>
 ak (aF ~v8 1) fun v10 =>
 gQ x9 true (cF ~v10) fun v11 =>
 gQ x9 true (aE ¢ .eql 23 °143 ¤0 ~v11 £0) fun v12 =>
 ak (bq ~x9 ~v12 ¿) fun v13 =>
 gQ v13 true (cF ~v9) fun v14 =>
 gQ v13 true (cF ~x12) fun v15 =>
 gW v13 true H2 (©true H2 149 17 [v14,v15]) fun v16 H3 =>
 ak (bq ~v13 ~v16 ¿) fun v17 =>
 Q v17 H3))
theorem fp(x9 x21 x1 x3 x20 x12 x6 x4:AV)(H:ab)(Q:AV→ab→Prop)(h : ∀g,cI g x9 x21 x1 x3 x20 x12 x6 x4 H Q):bT env Tryz.f6 0 cG [(9,x9),(21,x21),(1,x1),(3,x3),(20,x20),(12,x12),(6,x6),(4,x4)] H Q:=dx fun g=>aX (live:=ke) (cut:=kf) (n:=500) (Eq.mp (by kernel_rfl) (h g))
end Go.Proofs.YtdbiffjdomokfaaGreat
