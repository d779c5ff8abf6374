/-
  What is to be shown of each function, computed from its code. No statement of a seat is proved here.
-/
import Derived.Test.YtdbiffjdomokfaaGreatAuTy
set_option linter.unusedVariables false
set_option maxRecDepth 1000000
namespace Go.Proofs.YtdbiffjdomokfaaGreat
open Go.Ab
local notation:max "©" b:max h:max n:max f:max a:max=>bo env b (bj env) (bV env 0) h (Ref.mk 0 n (ab.gen h 0 n) 0) (some (AV.fn (Fn.func f) [] [])) a
local notation:max "§" h:max n:max=>Ref.mk 0 n (ab.gen h 0 n) 0
local notation:max "~" a:max=>some a
local notation:max "¥" h:max=>ab.get h
local notation:max "¤" n:max=>(Operand.const (Value.int IntKind.i64 n))
local notation:max "£" n:max=>some (AV.v (Value.int IntKind.i64 n))
local notation:max "¡" => some (AV.v (Value.bool true))
local notation:max "¿" => some (AV.v (Value.bool false))
local notation:max "°" n:max=>(Operand.tmp n)
local notation:max "¢" => env.P
noncomputable def tM:Code:=(Tryz.f78.body).getD .skip
def Jr:Nat→Option (List Nat):=fun i=>none
def JQ:Nat→Bool:=fun i=>false
def tW(g:Nat→AV)(x0:AV)(H:ab)(Q:AV→ab→Prop):Prop :=
 aO (bm H §H 1 (cD ¢ §H 1 50 ~x0)) fun v1 H1 =>
 aO (bm H1 §H1 2 (bY ¢ §H1 2 50)) fun v2 H2 =>
 ak (aa ¢ 50 ~v1 6) fun v3 =>
 ak (aj ¢ ¥H2 48 ~v3) fun v4 =>
 aO (©true H2 5 95 [v4]) fun v5 H3 =>
 ak (aa ¢ 50 ~v1 6) fun v6 =>
 aO (aT ¢ H3 48 ~v6 ~v5) fun v7 H4 =>
 ak (aj ¢ ¥H4 50 ~v1) fun v8 =>
 aO (aT ¢ H4 50 ~v2 ~v8) fun v9 H5 =>
 ak (du ¢ H5 v2 50) fun v10 =>
 Q v10 H5
theorem xm(x0:AV)(H:ab)(Q:AV→ab→Prop)(h : ∀g,tW g x0 H Q):bT env Tryz.f78 0 [.code tM] [(0,x0)] H Q:=⟨fun g=>aX (live:=Jr) (cut:=JQ) (n:=500) (Eq.mp (by kernel_rfl) (h g))⟩
noncomputable def sX:Code:=(Tryz.f99.body).getD .skip
def LX:Nat→Option (List Nat):=fun i=>none
def Mh:Nat→Bool:=fun i=>false
def p9(g:Nat→AV)(x0:AV)(H:ab)(Q:AV→ab→Prop):Prop :=
 aO (bm H §H 1 (cD ¢ §H 1 50 ~x0)) fun v1 H1 =>
 ak (aj ¢ ¥H1 50 ~v1) fun v2 =>
 aO (©true H1 16 115 [v2]) fun v3 H2 =>
 ak (aE ¢ .neq 23 °17 ¤0 ~v3 £0) fun v4 =>
 br ~v4 (
 Q (.tup [(.v (.slice none 0 0)),v3]) H2) (
 ak (aa ¢ 50 ~v1 1) fun v5 =>
 ak (aj ¢ ¥H2 40 ~v5) fun v6 =>
 aO (©true H2 23 98 [v6]) fun v7 H3 =>
 ak (aF ~v7 0) fun v8 =>
 ak (aF ~v7 1) fun v9 =>
 ak (aa ¢ 50 ~v1 3) fun v10 =>
 ak (aa ¢ 47 ~v10 0) fun v11 =>
 ak (aj ¢ ¥H3 45 ~v11) fun v12 =>
 aO (©true H3 30 119 [v12]) fun v13 H4 =>
 ak (aF ~v13 0) fun v14 =>
 ak (aF ~v13 1) fun v15 =>
 ak (aa ¢ 50 ~v1 0) fun v16 =>
 ak (aj ¢ ¥H4 5 ~v16) fun v17 =>
 aO (fa ¢ false true H4 §H4 35 137 1 (some [(0,v17)])) fun v18 H5 =>
 ak (aa ¢ 50 ~v1 2) fun v19 =>
 ak (aj ¢ ¥H5 3 ~v19) fun v20 =>
 ak (aE ¢ .shr 3 °38 (.const (.int .u64 16)) ~v20 (some (.v (.int .u64 16)))) fun v21 =>
 ak (cW ¢ ¥H5 §H5 40 3 5 ~v21) fun v22 =>
 ak (aa ¢ 50 ~v1 2) fun v23 =>
 ak (aj ¢ ¥H5 3 ~v23) fun v24 =>
 ak (aE ¢ .shr 3 °42 (.const (.int .u64 8)) ~v24 (some (.v (.int .u64 8)))) fun v25 =>
 ak (cW ¢ ¥H5 §H5 44 3 5 ~v25) fun v26 =>
 ak (aa ¢ 50 ~v1 2) fun v27 =>
 ak (aj ¢ ¥H5 3 ~v27) fun v28 =>
 ak (cW ¢ ¥H5 §H5 47 3 5 ~v28) fun v29 =>
 aO (fa ¢ false true H5 §H5 48 137 3 (some [(0,v22),(1,v26),(2,v29)])) fun v30 H6 =>
 ak (aa ¢ 50 ~v1 3) fun v31 =>
 ak (aa ¢ 47 ~v31 1) fun v32 =>
 ak (aj ¢ ¥H6 3 ~v32) fun v33 =>
 ak (cW ¢ ¥H6 §H6 53 3 5 ~v33) fun v34 =>
 aO (fa ¢ false true H6 §H6 54 137 1 (some [(0,v34)])) fun v35 H7 =>
 aO (fa ¢ false true H7 §H7 55 209 5 (some [(0,v18),(1,v8),(2,v30),(3,v14),(4,v35)])) fun v36 H8 =>
 aO (©true H8 56 120 [v36]) fun v37 H9 =>
 ak (aa ¢ 50 ~v1 0) fun v38 =>
 ak (aj ¢ ¥H9 5 ~v38) fun v39 =>
 ak (aE ¢ .eql 5 °58 (.const (.int .u8 1)) ~v39 (some (a8 1))) fun v40 =>
 br ~v40 (
 aO (bm H9 §H9 61 (u4 ¢ §H9 61 137 £13 £13)) fun v41 H10 =>
 ak (aa ¢ 50 ~v1 4) fun v42 =>
 ak (aj ¢ ¥H10 45 ~v42) fun v43 =>
 ak (cK ¢ 45 (some [])) fun v44 =>
 ak (aE ¢ .neq 45 °63 °64 ~v43 ~v44) fun v45 =>
 br ~v45 (
 ak (aa ¢ 50 ~v1 4) fun v46 =>
 ak (aj ¢ ¥H10 45 ~v46) fun v47 =>
 aO (©true H10 69 119 [v47]) fun v48 H11 =>
 ak (aF ~v48 0) fun v49 =>
 ak (aF ~v48 1) fun v50 =>
 ak (aa ¢ 50 ~v1 6) fun v51 =>
 ak (aj ¢ ¥H11 48 ~v51) fun v52 =>
 aO (©true H11 75 121 [v52]) fun v53 H12 =>
 ak (aF ~v53 0) fun v54 =>
 ak (aF ~v53 1) fun v55 =>
 aO (fa ¢ false true H12 §H12 81 209 3 (some [(0,v37),(1,v49),(2,v54)])) fun v56 H13 =>
 aO (©true H13 82 120 [v56]) fun v57 H14 =>
 Q (.tup [v57,(.v (.int .i64 0))]) H14) (
 ak (aa ¢ 50 ~v1 6) fun v46 =>
 ak (aj ¢ ¥H10 48 ~v46) fun v47 =>
 aO (©true H10 75 121 [v47]) fun v48 H11 =>
 ak (aF ~v48 0) fun v49 =>
 ak (aF ~v48 1) fun v50 =>
 aO (fa ¢ false true H11 §H11 81 209 3 (some [(0,v37),(1,v41),(2,v49)])) fun v51 H12 =>
 aO (©true H12 82 120 [v51]) fun v52 H13 =>
 Q (.tup [v52,(.v (.int .i64 0))]) H13)) (
 ak (aE ¢ .eql 5 °58 (.const (.int .u8 3)) ~v39 (some (a8 3))) fun v41 =>
 br ~v41 (
 ak (aa ¢ 50 ~v1 5) fun v42 =>
 ak (aj ¢ ¥H9 35 ~v42) fun v43 =>
 ak (cK ¢ 40 (some [(0,v43)])) fun v44 =>
 aO (©true H9 89 98 [v44]) fun v45 H10 =>
 ak (aF ~v45 0) fun v46 =>
 ak (aF ~v45 1) fun v47 =>
 ak (eQ ¢ ¥H10 137 ~v46 (some none) (oi (.v (.int .i64 5))) (some none)) fun v48 =>
 aO (cS ¢ true H10 §H10 95 (some 137) (some 137) v37 v48) fun v49 H11 =>
 Q (.tup [v49,(.v (.int .i64 0))]) H11) (
 Q (.tup [v37,(.v (.int .i64 0))]) H9)))
theorem vV(x0:AV)(H:ab)(Q:AV→ab→Prop)(h : ∀g,p9 g x0 H Q):bT env Tryz.f99 0 [.code sX] [(0,x0)] H Q:=⟨fun g=>aX (live:=LX) (cut:=Mh) (n:=500) (Eq.mp (by kernel_rfl) (h g))⟩
noncomputable def AM:Code:=(Tryz.f100.body).getD .skip
def Ho:Nat→Option (List Nat):=fun i=>none
def Ih:Nat→Bool:=fun i=>false
def AQ(g:Nat→AV)(x0:AV)(H:ab)(Q:AV→ab→Prop):Prop :=
 aO (bm H §H 1 (cD ¢ §H 1 50 ~x0)) fun v1 H1 =>
 ak (aa ¢ 50 ~v1 6) fun v2 =>
 ak (aj ¢ ¥H1 48 ~v2) fun v3 =>
 aO (©true H1 5 122 [v3,(.v (.int .i32 (-1)))]) fun v4 H2 =>
 ak (wM ¢ .not ~v4) fun v5 =>
 Q v5 H2
theorem Gs(x0:AV)(H:ab)(Q:AV→ab→Prop)(h : ∀g,AQ g x0 H Q):bT env Tryz.f100 0 [.code AM] [(0,x0)] H Q:=⟨fun g=>aX (live:=Ho) (cut:=Ih) (n:=500) (Eq.mp (by kernel_rfl) (h g))⟩
noncomputable def AN:Code:=(Tryz.f115.body).getD .skip
def Hp:Nat→Option (List Nat):=fun i=>none
def Ii:Nat→Bool:=fun i=>false
def iu(g:Nat→AV)(x0:AV)(H:ab)(Q:AV→ab→Prop):Prop :=
 aO (bm H §H 1 (cD ¢ §H 1 50 ~x0)) fun v1 H1 =>
 ak (aa ¢ 50 ~v1 0) fun v2 =>
 ak (aj ¢ ¥H1 5 ~v2) fun v3 =>
 ak (aE ¢ .eql 5 °4 (.const (.int .u8 0)) ~v3 (some (a8 0))) fun v4 =>
 gQ v4 false (aa ¢ 50 ~v1 0) fun v5 =>
 gQ v4 false (aj ¢ ¥H1 5 ~v5) fun v6 =>
 gQ v4 false (aE ¢ .geq 5 °8 (.const (.int .u8 4)) ~v6 (some (a8 4))) fun v7 =>
 ak (bq ~v4 ¡ ~v7) fun v8 =>
 gQ v8 false (aa ¢ 50 ~v1 1) fun v9 =>
 gQ v8 false (aj ¢ ¥H1 40 ~v9) fun v10 =>
 gW v8 false H1 (©false H1 14 117 [v10]) fun v11 H2 =>
 gQ v8 false (aE ¢ .neq 23 °14 ¤0 ~v11 £0) fun v12 =>
 ak (bq ~v8 ¡ ~v12) fun v13 =>
 gQ v13 false (aa ¢ 50 ~v1 2) fun v14 =>
 gQ v13 false (aj ¢ ¥H2 3 ~v14) fun v15 =>
 gQ v13 false (aE ¢ .lss 3 °19 ¤1 ~v15 £1) fun v16 =>
 ak (bq ~v13 ¡ ~v16) fun v17 =>
 gQ v17 false (aa ¢ 50 ~v1 2) fun v18 =>
 gQ v17 false (aj ¢ ¥H2 3 ~v18) fun v19 =>
 gQ v17 false (aE ¢ .geq 3 °24 ¤16777216 ~v19 £16777216) fun v20 =>
 ak (bq ~v17 ¡ ~v20) fun v21 =>
 gQ v21 false (aa ¢ 50 ~v1 3) fun v22 =>
 gQ v21 false (aj ¢ ¥H2 47 ~v22) fun v23 =>
 gW v21 false H2 (©false H2 30 131 [v23]) fun v24 H3 =>
 gQ v21 false (aE ¢ .neq 23 °30 ¤0 ~v24 £0) fun v25 =>
 ak (bq ~v21 ¡ ~v25) fun v26 =>
 gW v26 false H3 (©false H3 34 132 []) fun v27 H4 =>
 gQ v26 false (aa ¢ 50 ~v1 0) fun v28 =>
 gQ v26 false (aj ¢ ¥H4 5 ~v28) fun v29 =>
 gQ v26 false (nL ¢ 203 ~v27 ~v29) fun v30 =>
 gQ v26 false (lC ¢ 202 ~v30 0) fun v31 =>
 gQ v26 false (aj ¢ ¥H4 50 ~v1) fun v32 =>
 gW v26 false H4 (bo env true (bj env) (bV env 0) H4 §H4 40 ~v31 [v32]) fun v33 H5 =>
 gQ v26 false (wM ¢ .not ~v33) fun v34 =>
 ak (bq ~v26 ¡ ~v34) fun v35 =>
 br ~v35 (
 Q (.v (.int .i64 8)) H5) (
 Q (.v (.int .i64 0)) H5)
theorem Gt(x0:AV)(H:ab)(Q:AV→ab→Prop)(h : ∀g,iu g x0 H Q):bT env Tryz.f115 0 [.code AN] [(0,x0)] H Q:=⟨fun g=>aX (live:=Hp) (cut:=Ii) (n:=500) (Eq.mp (by kernel_rfl) (h g))⟩
noncomputable def C9:Code:=(Tryz.f123.body).getD .skip
def Js:Nat→Option (List Nat):=fun i=>none
def JR:Nat→Bool:=fun i=>false
def lL(g:Nat→AV)(x0 x1:AV)(H:ab)(Q:AV→ab→Prop):Prop :=
 aO (bm H §H 2 (cD ¢ §H 2 50 ~x0)) fun v1 H1 =>
 aO (bm H1 §H1 3 (cD ¢ §H1 3 50 ~x1)) fun v2 H2 =>
 ak (aj ¢ ¥H2 50 ~v1) fun v3 =>
 ak (aj ¢ ¥H2 50 ~v2) fun v4 =>
 aO (bm H2 §H2 5 (bY ¢ §H2 5 50)) fun v5 H3 =>
 aO (bm H3 §H3 6 (bY ¢ §H3 6 50)) fun v6 H4 =>
 aO (aT ¢ H4 50 ~v5 ~v3) fun v7 H5 =>
 aO (aT ¢ H5 50 ~v6 ~v4) fun v8 H6 =>
  kH [(v2,v5)] [v5,v6] [] H6 ∧
 (ak (aa ¢ 50 ~v5 0) fun v9 =>
 ak (aj ¢ ¥H6 5 ~v9) fun v10 =>
 ak (aa ¢ 50 ~v6 0) fun v11 =>
 ak (aj ¢ ¥H6 5 ~v11) fun v12 =>
 ak (aE ¢ .eql 5 °10 °12 ~v10 ~v12) fun v13 =>
 gQ v13 true (aa ¢ 50 ~v5 1) fun v14 =>
 gQ v13 true (aj ¢ ¥H6 40 ~v14) fun v15 =>
 gQ v13 true (aa ¢ 50 ~v6 1) fun v16 =>
 gQ v13 true (aj ¢ ¥H6 40 ~v16) fun v17 =>
 gQ v13 true (aE ¢ .eql 40 °16 °18 ~v15 ~v17) fun v18 =>
 ak (bq ~v13 ~v18 ¿) fun v19 =>
 gQ v19 true (aa ¢ 50 ~v5 2) fun v20 =>
 gQ v19 true (aj ¢ ¥H6 3 ~v20) fun v21 =>
 gQ v19 true (aa ¢ 50 ~v6 2) fun v22 =>
 gQ v19 true (aj ¢ ¥H6 3 ~v22) fun v23 =>
 gQ v19 true (aE ¢ .eql 3 °23 °25 ~v21 ~v23) fun v24 =>
 ak (bq ~v19 ~v24 ¿) fun v25 =>
 gQ v25 true (aa ¢ 50 ~v5 3) fun v26 =>
 gQ v25 true (aj ¢ ¥H6 47 ~v26) fun v27 =>
 gQ v25 true (aa ¢ 50 ~v6 3) fun v28 =>
 gQ v25 true (aj ¢ ¥H6 47 ~v28) fun v29 =>
 gQ v25 true (aE ¢ .eql 47 °30 °32 ~v27 ~v29) fun v30 =>
 ak (bq ~v25 ~v30 ¿) fun v31 =>
 gQ v31 true (aa ¢ 50 ~v5 4) fun v32 =>
 gQ v31 true (aj ¢ ¥H6 45 ~v32) fun v33 =>
 gQ v31 true (aa ¢ 50 ~v6 4) fun v34 =>
 gQ v31 true (aj ¢ ¥H6 45 ~v34) fun v35 =>
 gQ v31 true (aE ¢ .eql 45 °37 °39 ~v33 ~v35) fun v36 =>
 ak (bq ~v31 ~v36 ¿) fun v37 =>
 gQ v37 true (aa ¢ 50 ~v5 5) fun v38 =>
 gQ v37 true (aj ¢ ¥H6 35 ~v38) fun v39 =>
 gQ v37 true (aa ¢ 50 ~v6 5) fun v40 =>
 gQ v37 true (aj ¢ ¥H6 35 ~v40) fun v41 =>
 gQ v37 true (aE ¢ .eql 35 °44 °46 ~v39 ~v41) fun v42 =>
 ak (bq ~v37 ~v42 ¿) fun v43 =>
 gQ v43 true (aa ¢ 50 ~v5 6) fun v44 =>
 gQ v43 true (aj ¢ ¥H6 48 ~v44) fun v45 =>
 gQ v43 true (aa ¢ 50 ~v6 6) fun v46 =>
 gQ v43 true (aj ¢ ¥H6 48 ~v46) fun v47 =>
 gW v43 true H6 (©true H6 54 141 [v45,v47]) fun v48 H7 =>
 ak (bq ~v43 ~v48 ¿) fun v49 =>
 Q v49 H7)
theorem IJ(x0 x1:AV)(H:ab)(Q:AV→ab→Prop)(h : ∀g,lL g x0 x1 H Q):bT env Tryz.f123 0 [.code C9] [(0,x0),(1,x1)] H Q:=⟨fun g=>aX (live:=Js) (cut:=JR) (n:=500) (Eq.mp (by kernel_rfl) (h g))⟩
noncomputable def xb:Code:=(Tryz.f146.body).getD .skip
def DR:Nat→Option (List Nat):=fun i=>none
def D2:Nat→Bool:=fun i=>false
def si(g:Nat→AV)(x0:AV)(H:ab)(Q:AV→ab→Prop):Prop :=
 aO (bm H §H 1 (cD ¢ §H 1 50 ~x0)) fun v1 H1 =>
 ak (aa ¢ 50 ~v1 4) fun v2 =>
 ak (aj ¢ ¥H1 45 ~v2) fun v3 =>
 ak (cK ¢ 45 (some [])) fun v4 =>
 ak (aE ¢ .eql 45 °4 °5 ~v3 ~v4) fun v5 =>
 gQ v5 true (aa ¢ 50 ~v1 6) fun v6 =>
 gQ v5 true (aj ¢ ¥H1 48 ~v6) fun v7 =>
 gQ v5 true (aJ ¢ false ¥H1 §H1 10 .len #[48] [v7]) fun v8 =>
 gQ v5 true (aE ¢ .eql 3 °10 ¤0 ~v8 £0) fun v9 =>
 ak (bq ~v5 ~v9 ¿) fun v10 =>
 Q v10 H1
theorem Du(x0:AV)(H:ab)(Q:AV→ab→Prop)(h : ∀g,si g x0 H Q):bT env Tryz.f146 0 [.code xb] [(0,x0)] H Q:=⟨fun g=>aX (live:=DR) (cut:=D2) (n:=500) (Eq.mp (by kernel_rfl) (h g))⟩
noncomputable def xa:Code:=(Tryz.f147.body).getD .skip
def DQ:Nat→Option (List Nat):=fun i=>none
def D1:Nat→Bool:=fun i=>false
def xj(g:Nat→AV)(x0:AV)(H:ab)(Q:AV→ab→Prop):Prop :=
 aO (bm H §H 1 (cD ¢ §H 1 50 ~x0)) fun v1 H1 =>
 ak (aa ¢ 50 ~v1 5) fun v2 =>
 ak (aj ¢ ¥H1 35 ~v2) fun v3 =>
 aO (©false H1 5 91 []) fun v4 H2 =>
 ak (aE ¢ .eql 35 °4 °5 ~v3 ~v4) fun v5 =>
 Q v5 H2
theorem Dt(x0:AV)(H:ab)(Q:AV→ab→Prop)(h : ∀g,xj g x0 H Q):bT env Tryz.f147 0 [.code xa] [(0,x0)] H Q:=⟨fun g=>aX (live:=DQ) (cut:=D1) (n:=500) (Eq.mp (by kernel_rfl) (h g))⟩
noncomputable def w9:Code:=(Tryz.f148.body).getD .skip
def DP:Nat→Option (List Nat):=fun i=>none
def DZ:Nat→Bool:=fun i=>false
def gy(g:Nat→AV)(x0 x1:AV)(H:ab)(Q:AV→ab→Prop):Prop :=
 aO (bm H §H 2 (cD ¢ §H 2 50 ~x0)) fun v1 H1 =>
 ak (aa ¢ 50 ~v1 4) fun v2 =>
 ak (aj ¢ ¥H1 45 ~v2) fun v3 =>
 ak (cK ¢ 45 (some [])) fun v4 =>
 ak (aE ¢ .eql 45 °6 °7 ~v3 ~v4) fun v5 =>
 gQ v5 false (aa ¢ 50 ~v1 4) fun v6 =>
 gQ v5 false (aj ¢ ¥H1 45 ~v6) fun v7 =>
 gW v5 false H1 (©true H1 12 137 [v7]) fun v8 H2 =>
 gQ v5 false (aE ¢ .eql 23 °12 ¤0 ~v8 £0) fun v9 =>
 ak (bq ~v5 ¡ ~v9) fun v10 =>
 ak (aj ¢ ¥H2 112 ~x1) fun v11 =>
 ak (aj ¢ ¥H2 50 ~v1) fun v12 =>
 aO (bo env true (bj env) (bV env 0) H2 §H2 17 ~v11 [v12]) fun v13 H3 =>
 gQ v13 true (cF ~v10) fun v14 =>
 ak (bq ~v13 ~v14 ¿) fun v15 =>
 gQ v15 true (aa ¢ 50 ~v1 3) fun v16 =>
 gQ v15 true (aa ¢ 47 ~v16 0) fun v17 =>
 gQ v15 true (aa ¢ 45 ~v17 0) fun v18 =>
 gQ v15 true (aj ¢ ¥H3 40 ~v18) fun v19 =>
 gQ v15 true (aa ¢ 50 ~v1 1) fun v20 =>
 gQ v15 true (aj ¢ ¥H3 40 ~v20) fun v21 =>
 gQ v15 true (aE ¢ .eql 40 °25 °27 ~v19 ~v21) fun v22 =>
 ak (bq ~v15 ~v22 ¿) fun v23 =>
 gQ v23 true (aa ¢ 50 ~v1 6) fun v24 =>
 gQ v23 true (aj ¢ ¥H3 48 ~v24) fun v25 =>
 gQ v23 true (aJ ¢ false ¥H3 §H3 33 .len #[48] [v25]) fun v26 =>
 gQ v23 true (aa ¢ 50 ~v1 3) fun v27 =>
 gQ v23 true (aa ¢ 47 ~v27 1) fun v28 =>
 gQ v23 true (aj ¢ ¥H3 3 ~v28) fun v29 =>
 gQ v23 true (aE ¢ .eql 3 °33 °36 ~v26 ~v29) fun v30 =>
 ak (bq ~v23 ~v30 ¿) fun v31 =>
 gQ v31 true (aa ¢ 50 ~v1 6) fun v32 =>
 gQ v31 true (aj ¢ ¥H3 48 ~v32) fun v33 =>
 gW v31 true H3 (©true H3 42 139 [v33]) fun v34 H4 =>
 gQ v31 true (aE ¢ .eql 23 °42 ¤0 ~v34 £0) fun v35 =>
 ak (bq ~v31 ~v35 ¿) fun v36 =>
 Q v36 H4
theorem Ds(x0 x1:AV)(H:ab)(Q:AV→ab→Prop)(h : ∀g,gy g x0 x1 H Q):bT env Tryz.f148 0 [.code w9] [(0,x0),(1,x1)] H Q:=⟨fun g=>aX (live:=DP) (cut:=DZ) (n:=500) (Eq.mp (by kernel_rfl) (h g))⟩
noncomputable def w8:Code:=(Tryz.f150.body).getD .skip
def DO:Nat→Option (List Nat):=fun i=>none
def DY:Nat→Bool:=fun i=>false
def xi(g:Nat→AV)(x0 x1 x2:AV)(H:ab)(Q:AV→ab→Prop):Prop :=
 aO (bm H §H 3 (cD ¢ §H 3 50 ~x0)) fun v1 H1 =>
 ak (aj ¢ ¥H1 112 ~x1) fun v2 =>
 ak (aj ¢ ¥H1 50 ~v1) fun v3 =>
 aO (bo env true (bj env) (bV env 0) H1 §H1 7 ~v2 [v3]) fun v4 H2 =>
 gQ v4 true (aj ¢ ¥H2 112 ~x2) fun v5 =>
 gQ v4 true (aj ¢ ¥H2 50 ~v1) fun v6 =>
 gW v4 true H2 (bo env true (bj env) (bV env 0) H2 §H2 11 ~v5 [v6]) fun v7 H3 =>
 ak (bq ~v4 ~v7 ¿) fun v8 =>
 Q v8 H3
theorem Dr(x0 x1 x2:AV)(H:ab)(Q:AV→ab→Prop)(h : ∀g,xi g x0 x1 x2 H Q):bT env Tryz.f150 0 [.code w8] [(0,x0),(1,x1),(2,x2)] H Q:=⟨fun g=>aX (live:=DO) (cut:=DY) (n:=500) (Eq.mp (by kernel_rfl) (h g))⟩
noncomputable def w7:Code:=(Tryz.f152.body).getD .skip
def DN:Nat→Option (List Nat):=fun i=>none
def DX:Nat→Bool:=fun i=>false
def xg(g:Nat→AV)(x0 x1:AV)(H:ab)(Q:AV→ab→Prop):Prop :=
 aO (bm H §H 2 (cD ¢ §H 2 50 ~x0)) fun v1 H1 =>
 ak (aj ¢ ¥H1 112 ~x1) fun v2 =>
 ak (aj ¢ ¥H1 50 ~v1) fun v3 =>
 aO (bo env true (bj env) (bV env 0) H1 §H1 6 ~v2 [v3]) fun v4 H2 =>
 gQ v4 true (aa ¢ 50 ~v1 5) fun v5 =>
 gQ v4 true (aj ¢ ¥H2 35 ~v5) fun v6 =>
 gW v4 true H2 (©true H2 10 33 [v6]) fun v7 H3 =>
 gQ v4 true (aE ¢ .eql 23 °10 ¤0 ~v7 £0) fun v8 =>
 ak (bq ~v4 ~v8 ¿) fun v9 =>
 Q v9 H3
theorem Dq(x0 x1:AV)(H:ab)(Q:AV→ab→Prop)(h : ∀g,xg g x0 x1 H Q):bT env Tryz.f152 0 [.code w7] [(0,x0),(1,x1)] H Q:=⟨fun g=>aX (live:=DN) (cut:=DX) (n:=500) (Eq.mp (by kernel_rfl) (h g))⟩
end Go.Proofs.YtdbiffjdomokfaaGreat
