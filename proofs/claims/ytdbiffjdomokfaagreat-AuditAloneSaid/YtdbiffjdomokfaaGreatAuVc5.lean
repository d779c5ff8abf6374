/-
  What is to be shown of each function, computed from its code. No statement of a seat is proved here.
-/
import Derived.Test.YtdbiffjdomokfaaGreatAuTy
set_option linter.unusedVariables false
set_option maxRecDepth 1000000
namespace Go.Proofs.YtdbiffjdomokfaaGreat
open Go.Ab
local notation:max "©" b:max h:max n:max f:max a:max=>bo env b (bj env) (bV env 0) h (Ref.mk 0 n (ab.gen h 0 n) 0) (some (AV.fn (Fn.func f) [] [])) a
local notation:max "§" h:max n:max=>Ref.mk 0 n (ab.gen h 0 n) 0
local notation:max "~" a:max=>some a
local notation:max "¥" h:max=>ab.get h
local notation:max "¤" n:max=>(Operand.const (Value.int IntKind.i64 n))
local notation:max "£" n:max=>some (AV.v (Value.int IntKind.i64 n))
local notation:max "¡" => some (AV.v (Value.bool true))
local notation:max "¿" => some (AV.v (Value.bool false))
local notation:max "°" n:max=>(Operand.tmp n)
local notation:max "¢" => env.P
noncomputable def uq:Code:=(Tryz.f44.body).getD .skip
def A4:Nat→Option (List Nat):=fun i=>none
def Bb:Nat→Bool:=fun i=>false
def uB(g:Nat→AV)(x0:AV)(H:ab)(Q:AV→ab→Prop):Prop :=
 aO (bm H §H 1 (cD ¢ §H 1 56 ~x0)) fun v1 H1 =>
 ak (aj ¢ ¥H1 56 ~v1) fun v2 =>
 ak (cK ¢ 140 (some [(0,v2)])) fun v3 =>
 aO (©true H1 8 82 [v3]) fun v4 H2 =>
 ak (aF ~v4 0) fun v5 =>
 ak (aF ~v4 1) fun v6 =>
 ak (wM ¢ .not ~v6) fun v7 =>
 br ~v7 (
 Q (.v (.int .i64 8)) H2) (
 Q (.v (.int .i64 0)) H2)
theorem AS(x0:AV)(H:ab)(Q:AV→ab→Prop)(h : ∀g,uB g x0 H Q):bT env Tryz.f44 0 [.code uq] [(0,x0)] H Q:=⟨fun g=>aX (live:=A4) (cut:=Bb) (n:=500) (Eq.mp (by kernel_rfl) (h g))⟩
noncomputable def vD:Code:=(Tryz.f45.body).getD .skip
def Ci:Nat→Option (List Nat):=fun i=>none
def CT:Nat→Bool:=fun i=>false
def vM(g:Nat→AV)(x0:AV)(H:ab)(Q:AV→ab→Prop):Prop :=
 aO (bm H §H 1 (cD ¢ §H 1 56 ~x0)) fun v1 H1 =>
 aO (bm H1 §H1 2 (bY ¢ §H1 2 56)) fun v2 H2 =>
 ak (aa ¢ 56 ~v1 2) fun v3 =>
 ak (aj ¢ ¥H2 50 ~v3) fun v4 =>
 aO (©true H2 5 78 [v4]) fun v5 H3 =>
 ak (aa ¢ 56 ~v1 2) fun v6 =>
 aO (aT ¢ H3 50 ~v6 ~v5) fun v7 H4 =>
 ak (aj ¢ ¥H4 56 ~v1) fun v8 =>
 aO (aT ¢ H4 56 ~v2 ~v8) fun v9 H5 =>
 ak (du ¢ H5 v2 56) fun v10 =>
 Q v10 H5
theorem BA(x0:AV)(H:ab)(Q:AV→ab→Prop)(h : ∀g,vM g x0 H Q):bT env Tryz.f45 0 [.code vD] [(0,x0)] H Q:=⟨fun g=>aX (live:=Ci) (cut:=CT) (n:=500) (Eq.mp (by kernel_rfl) (h g))⟩
noncomputable def qE:Code:=(Tryz.f80.body).getD .skip
def Cs:Nat→Option (List Nat):=fun i=>none
def C3:Nat→Bool:=fun i=>false
def jU(g:Nat→AV)(x0 x1:AV)(H:ab)(Q:AV→ab→Prop):Prop :=
 aO (bm H §H 2 (cD ¢ §H 2 29 ~x0)) fun v1 H1 =>
 aO (bm H1 §H1 3 (cD ¢ §H1 3 54 ~x1)) fun v2 H2 =>
 aO (bm H2 §H2 4 (bY ¢ §H2 4 29)) fun v3 H3 =>
 ak (aj ¢ ¥H3 29 ~v1) fun v4 =>
 aO (©false H3 11 41 [v4]) fun v5 H4 =>
 ak (aj ¢ ¥H4 54 ~v2) fun v6 =>
 aO (©false H4 13 96 [v6]) fun v7 H5 =>
 ak (aJ ¢ true ¥H5 §H5 14 .max #[23,23] [v5,v7]) fun v8 =>
 ak (aE ¢ .neq 23 °15 ¤0 ~v8 £0) fun v9 =>
 br ~v9 (
 ak (cK ¢ 29 (some [])) fun v10 =>
 aO (aT ¢ H5 29 ~v3 ~v10) fun v11 H6 =>
 ak (du ¢ H6 v3 29) fun v12 =>
 Q (.tup [v12,v8]) H6) (
 ak (aj ¢ ¥H5 29 ~v1) fun v10 =>
 ak (aj ¢ ¥H5 54 ~v2) fun v11 =>
 aO (©true H5 21 97 [v10,v11]) fun v12 H6 =>
 ak (o3 ¢ ~v12 29 true) fun v13 =>
 ak (aF ~v13 0) fun v14 =>
 ak (aF ~v13 1) fun v15 =>
 aO (bm H6 §H6 8 (bY ¢ §H6 8 29)) fun v16 H7 =>
 aO (aT ¢ H7 29 ~v16 ~v14) fun v17 H8 =>
 br ~v15 (
 ak (aj ¢ ¥H8 29 ~v16) fun v18 =>
 aO (aT ¢ H8 29 ~v3 ~v18) fun v19 H9 =>
 ak (du ¢ H9 v3 29) fun v20 =>
 Q (.tup [v20,(.v (.int .i64 0))]) H9) (
 ak (cK ¢ 29 (some [])) fun v18 =>
 ak (o3 ¢ ~v12 23 false) fun v19 =>
 aO (aT ¢ H8 29 ~v3 ~v18) fun v20 H9 =>
 ak (du ¢ H9 v3 29) fun v21 =>
 Q (.tup [v21,v19]) H9))
theorem uP(x0 x1:AV)(H:ab)(Q:AV→ab→Prop)(h : ∀g,jU g x0 x1 H Q):bT env Tryz.f80 0 [.code qE] [(0,x0),(1,x1)] H Q:=⟨fun g=>aX (live:=Cs) (cut:=C3) (n:=500) (Eq.mp (by kernel_rfl) (h g))⟩
noncomputable def vJ:Code:=(Tryz.f96.body).getD .skip
def Cr:Nat→Option (List Nat):=fun i=>none
def C2:Nat→Bool:=fun i=>false
def qN(g:Nat→AV)(x0:AV)(H:ab)(Q:AV→ab→Prop):Prop :=
 aO (bm H §H 1 (cD ¢ §H 1 54 ~x0)) fun v1 H1 =>
 ak (aa ¢ 54 ~v1 1) fun v2 =>
 ak (aa ¢ 52 ~v2 1) fun v3 =>
 ak (aj ¢ ¥H1 4 ~v3) fun v4 =>
 gQ v4 false (aa ¢ 54 ~v1 1) fun v5 =>
 gQ v4 false (aa ¢ 52 ~v5 0) fun v6 =>
 gQ v4 false (aj ¢ ¥H1 35 ~v6) fun v7 =>
 gW v4 false H1 (©false H1 11 91 []) fun v8 H2 =>
 gQ v4 false (aE ¢ .eql 35 °10 °11 ~v7 ~v8) fun v9 =>
 ak (bq ~v4 ¡ ~v9) fun v10 =>
 ak (aa ¢ 54 ~v1 0) fun v11 =>
 ak (aj ¢ ¥H2 3 ~v11) fun v12 =>
 ak (aE ¢ .lss 3 °15 ¤0 ~v12 £0) fun v13 =>
 gQ v13 false (aa ¢ 54 ~v1 0) fun v14 =>
 gQ v13 false (aj ¢ ¥H2 3 ~v14) fun v15 =>
 gQ v13 false (aE ¢ .geq 3 °19 ¤8 ~v15 £8) fun v16 =>
 ak (bq ~v13 ¡ ~v16) fun v17 =>
 gQ v17 false (aa ¢ 54 ~v1 1) fun v18 =>
 gQ v17 false (aa ¢ 52 ~v18 0) fun v19 =>
 gQ v17 false (aj ¢ ¥H2 35 ~v19) fun v20 =>
 gW v17 false H2 (©true H2 26 33 [v20]) fun v21 H3 =>
 gQ v17 false (aE ¢ .neq 23 °26 ¤0 ~v21 £0) fun v22 =>
 ak (bq ~v17 ¡ ~v22) fun v23 =>
 gQ v23 false (cF ~v10) fun v24 =>
 gQ v23 false (wM ¢ .not ~v24) fun v25 =>
 ak (bq ~v23 ¡ ~v25) fun v26 =>
 br ~v26 (
 Q (.v (.int .i64 8)) H3) (
 Q (.v (.int .i64 0)) H3)
theorem BG(x0:AV)(H:ab)(Q:AV→ab→Prop)(h : ∀g,qN g x0 H Q):bT env Tryz.f96 0 [.code vJ] [(0,x0)] H Q:=⟨fun g=>aX (live:=Cr) (cut:=C2) (n:=500) (Eq.mp (by kernel_rfl) (h g))⟩
noncomputable def jO:Code:=(Tryz.f97.body).getD .skip
def Cq:Nat→Option (List Nat):=fun i=>none
def C1:Nat→Bool:=fun i=>false
def jT(g:Nat→AV)(x0 x1:AV)(H:ab)(Q:AV→ab→Prop):Prop :=
 aO (bm H §H 2 (cD ¢ §H 2 29 ~x0)) fun v1 H1 =>
 aO (bm H1 §H1 3 (cD ¢ §H1 3 54 ~x1)) fun v2 H2 =>
 ak (aa ¢ 54 ~v2 0) fun v3 =>
 ak (aj ¢ ¥H2 3 ~v3) fun v4 =>
 ak (aa ¢ 29 ~v1 0) fun v5 =>
 ak (aj ¢ ¥H2 26 ~v5) fun v6 =>
 ak (aJ ¢ false ¥H2 §H2 10 .len #[26] [v6]) fun v7 =>
 ak (aE ¢ .geq 3 °7 °10 ~v4 ~v7) fun v8 =>
 br ~v8 (
 ak (oL ¢ 23 £2) fun v9 =>
 Q v9 H2) (
 ak (aa ¢ 29 ~v1 2) fun v9 =>
 ak (aj ¢ ¥H2 3 ~v9) fun v10 =>
 ak (aE ¢ .eql 3 °15 ¤0 ~v10 £0) fun v11 =>
 br ~v11 (
 ak (oL ¢ 23 £9) fun v12 =>
 Q v12 H2) (
 ak (aj ¢ ¥H2 29 ~v1) fun v12 =>
 aO (©true H2 19 42 [v12]) fun v13 H3 =>
 aO (aT ¢ H3 29 ~v1 ~v13) fun v14 H4 =>
 ak (aa ¢ 29 ~v1 0) fun v15 =>
 ak (aj ¢ ¥H4 26 ~v15) fun v16 =>
 ak (aa ¢ 54 ~v2 0) fun v17 =>
 ak (aj ¢ ¥H4 3 ~v17) fun v18 =>
 ak (aa ¢ 54 ~v2 1) fun v19 =>
 ak (aj ¢ ¥H4 52 ~v19) fun v20 =>
 ak (aM ¢ ¥H4 26 ~v16 ~v18) fun v21 =>
 aO (aT ¢ H4 52 ~v21 ~v20) fun v22 H5 =>
 ak (aa ¢ 29 ~v1 2) fun v23 =>
 ak (aj ¢ ¥H5 3 ~v23) fun v24 =>
 ak (aE ¢ .sub 3 °28 ¤1 ~v24 £1) fun v25 =>
 ak (aa ¢ 29 ~v1 2) fun v26 =>
 aO (aT ¢ H5 3 ~v26 ~v25) fun v27 H6 =>
 ak (aj ¢ ¥H6 29 ~v1) fun v28 =>
 ak (oL ¢ 29 ~v28) fun v29 =>
 Q v29 H6))
theorem ly(x0 x1:AV)(H:ab)(Q:AV→ab→Prop)(h : ∀g,jT g x0 x1 H Q):bT env Tryz.f97 0 [.code jO] [(0,x0),(1,x1)] H Q:=⟨fun g=>aX (live:=Cq) (cut:=C1) (n:=500) (Eq.mp (by kernel_rfl) (h g))⟩
noncomputable def zn:Code:=(Tryz.f101.body).getD .skip
def FF:Nat→Option (List Nat):=fun i=>none
def F0:Nat→Bool:=fun i=>false
def tY(g:Nat→AV)(x0:AV)(H:ab)(Q:AV→ab→Prop):Prop :=
 aO (bm H §H 1 (cD ¢ §H 1 54 ~x0)) fun v1 H1 =>
 ak (aj ¢ ¥H1 54 ~v1) fun v2 =>
 aO (©true H1 9 96 [v2]) fun v3 H2 =>
 ak (aE ¢ .neq 23 °10 ¤0 ~v3 £0) fun v4 =>
 br ~v4 (
 Q (.tup [(.v (.slice none 0 0)),v3]) H2) (
 ak (aa ¢ 54 ~v1 1) fun v5 =>
 ak (aa ¢ 52 ~v5 1) fun v6 =>
 ak (aj ¢ ¥H2 4 ~v6) fun v7 =>
 br ~v7 (
 ak (aa ¢ 54 ~v1 1) fun v8 =>
 ak (aa ¢ 52 ~v8 0) fun v9 =>
 ak (aj ¢ ¥H2 35 ~v9) fun v10 =>
 ak (cK ¢ 40 (some [(0,v10)])) fun v11 =>
 aO (©true H2 21 98 [v11]) fun v12 H3 =>
 ak (aF ~v12 0) fun v13 =>
 ak (aF ~v12 1) fun v14 =>
 ak (aa ¢ 54 ~v1 0) fun v15 =>
 ak (aj ¢ ¥H3 3 ~v15) fun v16 =>
 ak (cW ¢ ¥H3 §H3 26 3 5 ~v16) fun v17 =>
 aO (fa ¢ true false H3 §H3 28 137 2 (some [(0,v17),(1,(a8 1))])) fun v18 H4 =>
 ak (aJ ¢ false ¥H4 §H4 31 .len #[137] [v13]) fun v19 =>
 ak (aE ¢ .sub 3 °31 ¤1 ~v19 £1) fun v20 =>
 ak (eQ ¢ ¥H4 137 ~v13 (some none) (oi v20) (some none)) fun v21 =>
 aO (cS ¢ true H4 §H4 34 (some 137) (some 137) v18 v21) fun v22 H5 =>
 Q (.tup [v22,v14]) H5) (
 ak (aa ¢ 54 ~v1 1) fun v8 =>
 ak (aa ¢ 52 ~v8 0) fun v9 =>
 ak (aj ¢ ¥H2 35 ~v9) fun v10 =>
 ak (cK ¢ 40 (some [(0,v10)])) fun v11 =>
 aO (©true H2 21 98 [v11]) fun v12 H3 =>
 ak (aF ~v12 0) fun v13 =>
 ak (aF ~v12 1) fun v14 =>
 ak (aa ¢ 54 ~v1 0) fun v15 =>
 ak (aj ¢ ¥H3 3 ~v15) fun v16 =>
 ak (cW ¢ ¥H3 §H3 26 3 5 ~v16) fun v17 =>
 aO (fa ¢ true false H3 §H3 28 137 2 (some [(0,v17),(1,(a8 0))])) fun v18 H4 =>
 ak (aJ ¢ false ¥H4 §H4 31 .len #[137] [v13]) fun v19 =>
 ak (aE ¢ .sub 3 °31 ¤1 ~v19 £1) fun v20 =>
 ak (eQ ¢ ¥H4 137 ~v13 (some none) (oi v20) (some none)) fun v21 =>
 aO (cS ¢ true H4 §H4 34 (some 137) (some 137) v18 v21) fun v22 H5 =>
 Q (.tup [v22,v14]) H5))
theorem Ff(x0:AV)(H:ab)(Q:AV→ab→Prop)(h : ∀g,tY g x0 H Q):bT env Tryz.f101 0 [.code zn] [(0,x0)] H Q:=⟨fun g=>aX (live:=FF) (cut:=F0) (n:=500) (Eq.mp (by kernel_rfl) (h g))⟩
noncomputable def vE:Code:=(Tryz.f102.body).getD .skip
def Cj:Nat→Option (List Nat):=fun i=>none
def CU:Nat→Bool:=fun i=>false
def jR(g:Nat→AV)(x0 x1:AV)(H:ab)(Q:AV→ab→Prop):Prop :=
 aO (bm H §H 2 (cD ¢ §H 2 56 ~x0)) fun v1 H1 =>
 aO (bm H1 §H1 3 (cD ¢ §H1 3 56 ~x1)) fun v2 H2 =>
 ak (aa ¢ 56 ~v1 0) fun v3 =>
 ak (aj ¢ ¥H2 5 ~v3) fun v4 =>
 ak (aa ¢ 56 ~v2 0) fun v5 =>
 ak (aj ¢ ¥H2 5 ~v5) fun v6 =>
 ak (aE ¢ .eql 5 °6 °8 ~v4 ~v6) fun v7 =>
 gQ v7 true (aa ¢ 56 ~v1 1) fun v8 =>
 gQ v7 true (aj ¢ ¥H2 3 ~v8) fun v9 =>
 gQ v7 true (aa ¢ 56 ~v2 1) fun v10 =>
 gQ v7 true (aj ¢ ¥H2 3 ~v10) fun v11 =>
 gQ v7 true (aE ¢ .eql 3 °12 °14 ~v9 ~v11) fun v12 =>
 ak (bq ~v7 ~v12 ¿) fun v13 =>
 gQ v13 true (aa ¢ 56 ~v1 2) fun v14 =>
 gQ v13 true (aj ¢ ¥H2 50 ~v14) fun v15 =>
 gQ v13 true (aa ¢ 56 ~v2 2) fun v16 =>
 gQ v13 true (aj ¢ ¥H2 50 ~v16) fun v17 =>
 gW v13 true H2 (©true H2 22 123 [v15,v17]) fun v18 H3 =>
 ak (bq ~v13 ~v18 ¿) fun v19 =>
 gQ v19 true (aa ¢ 56 ~v1 3) fun v20 =>
 gQ v19 true (aj ¢ ¥H3 23 ~v20) fun v21 =>
 gQ v19 true (aa ¢ 56 ~v2 3) fun v22 =>
 gQ v19 true (aj ¢ ¥H3 23 ~v22) fun v23 =>
 gQ v19 true (aE ¢ .eql 23 °26 °28 ~v21 ~v23) fun v24 =>
 ak (bq ~v19 ~v24 ¿) fun v25 =>
 gQ v25 true (aa ¢ 56 ~v1 4) fun v26 =>
 gQ v25 true (aj ¢ ¥H3 54 ~v26) fun v27 =>
 gQ v25 true (aa ¢ 56 ~v2 4) fun v28 =>
 gQ v25 true (aj ¢ ¥H3 54 ~v28) fun v29 =>
 gQ v25 true (aE ¢ .eql 54 °33 °35 ~v27 ~v29) fun v30 =>
 ak (bq ~v25 ~v30 ¿) fun v31 =>
 Q v31 H3
theorem BB(x0 x1:AV)(H:ab)(Q:AV→ab→Prop)(h : ∀g,jR g x0 x1 H Q):bT env Tryz.f102 0 [.code vE] [(0,x0),(1,x1)] H Q:=⟨fun g=>aX (live:=Cj) (cut:=CU) (n:=500) (Eq.mp (by kernel_rfl) (h g))⟩
end Go.Proofs.YtdbiffjdomokfaaGreat
