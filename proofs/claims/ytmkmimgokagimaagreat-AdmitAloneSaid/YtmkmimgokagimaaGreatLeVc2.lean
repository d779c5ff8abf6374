/-
  What is to be shown of each function, computed from its code. No statement of a seat is proved here.
-/
import Derived.Test.YtmkmimgokagimaaGreatLeTy
set_option linter.unusedVariables false
set_option maxRecDepth 1000000
namespace Go.Proofs.YtmkmimgokagimaaGreat
open Go.Ab
local notation:max "©" b:max h:max n:max f:max a:max=>bo env b (bj env) (bO env 0) h (Ref.mk 0 n (ad.gen h 0 n) 0) (some (AV.fn (Fn.func f) [] [])) a
local notation:max "§" h:max n:max=>Ref.mk 0 n (ad.gen h 0 n) 0
local notation:max "~" a:max=>some a
local notation:max "¥" h:max=>ad.get h
local notation:max "¤" n:max=>(Operand.const (Value.int IntKind.i64 n))
local notation:max "£" n:max=>some (AV.v (Value.int IntKind.i64 n))
local notation:max "¡" => some (AV.v (Value.bool true))
local notation:max "¿" => some (AV.v (Value.bool false))
local notation:max "°" n:max=>(Operand.tmp n)
local notation:max "¢" => env.P
noncomputable def oC:Code:=(Tryz.f62.body).getD .skip
def vw:Nat→Option (List Nat):=fun i=>none
def vL:Nat→Bool:=fun i=>false
def cY(g:Nat→AV)(x0 x1:AV)(H:ad)(Q:AV→ad→Prop):Prop :=
 aL (bg H §H 2 (cd ¢ §H 2 38 ~x0)) fun v1 H1 =>
 aL (bg H1 §H1 3 (cd ¢ §H1 3 38 ~x1)) fun v2 H2 =>
 ak (aa ¢ 38 ~v1 0) fun v3 =>
 ak (aj ¢ ¥H2 5 ~v3) fun v4 =>
 ak (aa ¢ 38 ~v2 0) fun v5 =>
 ak (aj ¢ ¥H2 5 ~v5) fun v6 =>
 ak (aH ¢ .eql 5 °6 °8 ~v4 ~v6) fun v7 =>
 gQ v7 true (aa ¢ 38 ~v1 1) fun v8 =>
 gQ v7 true (aj ¢ ¥H2 31 ~v8) fun v9 =>
 gQ v7 true (aa ¢ 38 ~v2 1) fun v10 =>
 gQ v7 true (aj ¢ ¥H2 31 ~v10) fun v11 =>
 gQ v7 true (aH ¢ .eql 31 °12 °14 ~v9 ~v11) fun v12 =>
 ak (bp ~v7 ~v12 ¿) fun v13 =>
 gQ v13 true (aa ¢ 38 ~v1 2) fun v14 =>
 gQ v13 true (aj ¢ ¥H2 3 ~v14) fun v15 =>
 gQ v13 true (aa ¢ 38 ~v2 2) fun v16 =>
 gQ v13 true (aj ¢ ¥H2 3 ~v16) fun v17 =>
 gQ v13 true (aH ¢ .eql 3 °19 °21 ~v15 ~v17) fun v18 =>
 ak (bp ~v13 ~v18 ¿) fun v19 =>
 gQ v19 true (aa ¢ 38 ~v1 3) fun v20 =>
 gQ v19 true (aj ¢ ¥H2 35 ~v20) fun v21 =>
 gQ v19 true (aa ¢ 38 ~v2 3) fun v22 =>
 gQ v19 true (aj ¢ ¥H2 35 ~v22) fun v23 =>
 gQ v19 true (aH ¢ .eql 35 °26 °28 ~v21 ~v23) fun v24 =>
 ak (bp ~v19 ~v24 ¿) fun v25 =>
 gQ v25 true (aa ¢ 38 ~v1 4) fun v26 =>
 gQ v25 true (aj ¢ ¥H2 33 ~v26) fun v27 =>
 gQ v25 true (aa ¢ 38 ~v2 4) fun v28 =>
 gQ v25 true (aj ¢ ¥H2 33 ~v28) fun v29 =>
 gQ v25 true (aH ¢ .eql 33 °33 °35 ~v27 ~v29) fun v30 =>
 ak (bp ~v25 ~v30 ¿) fun v31 =>
 gQ v31 true (aa ¢ 38 ~v1 5) fun v32 =>
 gQ v31 true (aj ¢ ¥H2 29 ~v32) fun v33 =>
 gQ v31 true (aa ¢ 38 ~v2 5) fun v34 =>
 gQ v31 true (aj ¢ ¥H2 29 ~v34) fun v35 =>
 gQ v31 true (aH ¢ .eql 29 °40 °42 ~v33 ~v35) fun v36 =>
 ak (bp ~v31 ~v36 ¿) fun v37 =>
 gQ v37 true (aa ¢ 38 ~v1 6) fun v38 =>
 gQ v37 true (aj ¢ ¥H2 36 ~v38) fun v39 =>
 gQ v37 true (aa ¢ 38 ~v2 6) fun v40 =>
 gQ v37 true (aj ¢ ¥H2 36 ~v40) fun v41 =>
 gW v37 true H2 (©true H2 50 133 [v39,v41]) fun v42 H3 =>
 ak (bp ~v37 ~v42 ¿) fun v43 =>
 Q v43 H3
theorem vc(x0 x1:AV)(H:ad)(Q:AV→ad→Prop)(h : ∀g,cY g x0 x1 H Q):b7 env Tryz.f62 0 [.code oC] [(0,x0),(1,x1)] H Q:=⟨fun g=>bc (live:=vw) (cut:=vL) (n:=500) (Eq.mp (by kernel_rfl) (h g))⟩
noncomputable def Dp:Code:=(Tryz.f70.body).getD .skip
def Kp:Nat→Option (List Nat):=fun i=>none
def K6:Nat→Bool:=fun i=>false
def iN(g:Nat→AV)(x0:AV)(H:ad)(Q:AV→ad→Prop):Prop :=
 aL (bg H §H 1 (cd ¢ §H 1 38 ~x0)) fun v1 H1 =>
 ak (aa ¢ 38 ~v1 0) fun v2 =>
 ak (aj ¢ ¥H1 5 ~v2) fun v3 =>
 ak (aH ¢ .eql 5 °4 (.const (.int .u8 0)) ~v3 (some (a8 0))) fun v4 =>
 gQ v4 false (aa ¢ 38 ~v1 0) fun v5 =>
 gQ v4 false (aj ¢ ¥H1 5 ~v5) fun v6 =>
 gQ v4 false (aH ¢ .geq 5 °8 (.const (.int .u8 4)) ~v6 (some (a8 4))) fun v7 =>
 ak (bp ~v4 ¡ ~v7) fun v8 =>
 gQ v8 false (aa ¢ 38 ~v1 1) fun v9 =>
 gQ v8 false (aj ¢ ¥H1 31 ~v9) fun v10 =>
 gW v8 false H1 (©false H1 14 91 [v10]) fun v11 H2 =>
 gQ v8 false (aH ¢ .neq 42 °14 ¤0 ~v11 £0) fun v12 =>
 ak (bp ~v8 ¡ ~v12) fun v13 =>
 gQ v13 false (aa ¢ 38 ~v1 2) fun v14 =>
 gQ v13 false (aj ¢ ¥H2 3 ~v14) fun v15 =>
 gQ v13 false (aH ¢ .lss 3 °19 ¤1 ~v15 £1) fun v16 =>
 ak (bp ~v13 ¡ ~v16) fun v17 =>
 gQ v17 false (aa ¢ 38 ~v1 2) fun v18 =>
 gQ v17 false (aj ¢ ¥H2 3 ~v18) fun v19 =>
 gQ v17 false (aH ¢ .geq 3 °24 ¤16777216 ~v19 £16777216) fun v20 =>
 ak (bp ~v17 ¡ ~v20) fun v21 =>
 gQ v21 false (aa ¢ 38 ~v1 3) fun v22 =>
 gQ v21 false (aj ¢ ¥H2 35 ~v22) fun v23 =>
 gW v21 false H2 (©false H2 30 135 [v23]) fun v24 H3 =>
 gQ v21 false (aH ¢ .neq 42 °30 ¤0 ~v24 £0) fun v25 =>
 ak (bp ~v21 ¡ ~v25) fun v26 =>
 gW v26 false H3 (©false H3 34 136 []) fun v27 H4 =>
 gQ v26 false (aa ¢ 38 ~v1 0) fun v28 =>
 gQ v26 false (aj ¢ ¥H4 5 ~v28) fun v29 =>
 gQ v26 false (o5 ¢ 204 ~v27 ~v29) fun v30 =>
 gQ v26 false (pV ¢ 203 ~v30 0) fun v31 =>
 gQ v26 false (aj ¢ ¥H4 38 ~v1) fun v32 =>
 gW v26 false H4 (bo env true (bj env) (bO env 0) H4 §H4 40 ~v31 [v32]) fun v33 H5 =>
 gQ v26 false (vk ¢ .not ~v33) fun v34 =>
 ak (bp ~v26 ¡ ~v34) fun v35 =>
 br ~v35 (
 Q (.v (.int .i64 8)) H5) (
 Q (.v (.int .i64 0)) H5)
theorem Jt(x0:AV)(H:ad)(Q:AV→ad→Prop)(h : ∀g,iN g x0 H Q):b7 env Tryz.f70 0 [.code Dp] [(0,x0)] H Q:=⟨fun g=>bc (live:=Kp) (cut:=K6) (n:=500) (Eq.mp (by kernel_rfl) (h g))⟩
noncomputable def wE:Code:=(Tryz.f108.body).getD .skip
def Md:Nat→Option (List Nat):=fun i=>none
def MD:Nat→Bool:=fun i=>false
def wO(g:Nat→AV)(x0:AV)(H:ad)(Q:AV→ad→Prop):Prop :=
 aL (bg H §H 1 (cd ¢ §H 1 38 ~x0)) fun v1 H1 =>
 aL (bg H1 §H1 2 (bI ¢ §H1 2 38)) fun v2 H2 =>
 ak (aa ¢ 38 ~v1 6) fun v3 =>
 ak (aj ¢ ¥H2 36 ~v3) fun v4 =>
 aL (©true H2 5 173 [v4]) fun v5 H3 =>
 ak (aa ¢ 38 ~v1 6) fun v6 =>
 aL (aQ ¢ H3 36 ~v6 ~v5) fun v7 H4 =>
 ak (aj ¢ ¥H4 38 ~v1) fun v8 =>
 aL (aQ ¢ H4 38 ~v2 ~v8) fun v9 H5 =>
 ak (bC ¢ H5 v2 38) fun v10 =>
 Q v10 H5
theorem zW(x0:AV)(H:ad)(Q:AV→ad→Prop)(h : ∀g,wO g x0 H Q):b7 env Tryz.f108 0 [.code wE] [(0,x0)] H Q:=⟨fun g=>bc (live:=Md) (cut:=MD) (n:=500) (Eq.mp (by kernel_rfl) (h g))⟩
noncomputable def Dn:Code:=(Tryz.f121.body).getD .skip
def Ko:Nat→Option (List Nat):=fun i=>none
def K5:Nat→Bool:=fun i=>false
def Dt(g:Nat→AV)(x0:AV)(H:ad)(Q:AV→ad→Prop):Prop :=
 aL (bg H §H 1 (cd ¢ §H 1 38 ~x0)) fun v1 H1 =>
 ak (aa ¢ 38 ~v1 6) fun v2 =>
 ak (aj ¢ ¥H1 36 ~v2) fun v3 =>
 aL (©true H1 5 176 [v3,(.v (.int .i32 (-1)))]) fun v4 H2 =>
 ak (vk ¢ .not ~v4) fun v5 =>
 Q v5 H2
theorem Js(x0:AV)(H:ad)(Q:AV→ad→Prop)(h : ∀g,Dt g x0 H Q):b7 env Tryz.f121 0 [.code Dn] [(0,x0)] H Q:=⟨fun g=>bc (live:=Ko) (cut:=K5) (n:=500) (Eq.mp (by kernel_rfl) (h g))⟩
noncomputable def vO:Code:=(Tryz.f163.body).getD .skip
def OU:Nat→Option (List Nat):=fun i=>none
def Pf:Nat→Bool:=fun i=>false
def rE(g:Nat→AV)(x0:AV)(H:ad)(Q:AV→ad→Prop):Prop :=
 aL (bg H §H 1 (cd ¢ §H 1 38 ~x0)) fun v1 H1 =>
 ak (aj ¢ ¥H1 38 ~v1) fun v2 =>
 aL (©true H1 16 70 [v2]) fun v3 H2 =>
 ak (aH ¢ .neq 42 °17 ¤0 ~v3 £0) fun v4 =>
 br ~v4 (
 Q (.tup [(.v (.slice none 0 0)),v3]) H2) (
 ak (aa ¢ 38 ~v1 1) fun v5 =>
 ak (aj ¢ ¥H2 31 ~v5) fun v6 =>
 aL (©true H2 23 162 [v6]) fun v7 H3 =>
 ak (aE ~v7 0) fun v8 =>
 ak (aE ~v7 1) fun v9 =>
 ak (aa ¢ 38 ~v1 3) fun v10 =>
 ak (aa ¢ 35 ~v10 0) fun v11 =>
 ak (aj ¢ ¥H3 33 ~v11) fun v12 =>
 aL (©true H3 30 208 [v12]) fun v13 H4 =>
 ak (aE ~v13 0) fun v14 =>
 ak (aE ~v13 1) fun v15 =>
 ak (aa ¢ 38 ~v1 0) fun v16 =>
 ak (aj ¢ ¥H4 5 ~v16) fun v17 =>
 aL (fu ¢ false true H4 §H4 35 170 1 (some [(0,v17)])) fun v18 H5 =>
 ak (aa ¢ 38 ~v1 2) fun v19 =>
 ak (aj ¢ ¥H5 3 ~v19) fun v20 =>
 ak (aH ¢ .shr 3 °38 (.const (.int .u64 16)) ~v20 (some (.v (.int .u64 16)))) fun v21 =>
 ak (cZ ¢ ¥H5 §H5 40 3 5 ~v21) fun v22 =>
 ak (aa ¢ 38 ~v1 2) fun v23 =>
 ak (aj ¢ ¥H5 3 ~v23) fun v24 =>
 ak (aH ¢ .shr 3 °42 (.const (.int .u64 8)) ~v24 (some (.v (.int .u64 8)))) fun v25 =>
 ak (cZ ¢ ¥H5 §H5 44 3 5 ~v25) fun v26 =>
 ak (aa ¢ 38 ~v1 2) fun v27 =>
 ak (aj ¢ ¥H5 3 ~v27) fun v28 =>
 ak (cZ ¢ ¥H5 §H5 47 3 5 ~v28) fun v29 =>
 aL (fu ¢ false true H5 §H5 48 170 3 (some [(0,v22),(1,v26),(2,v29)])) fun v30 H6 =>
 ak (aa ¢ 38 ~v1 3) fun v31 =>
 ak (aa ¢ 35 ~v31 1) fun v32 =>
 ak (aj ¢ ¥H6 3 ~v32) fun v33 =>
 ak (cZ ¢ ¥H6 §H6 53 3 5 ~v33) fun v34 =>
 aL (fu ¢ false true H6 §H6 54 170 1 (some [(0,v34)])) fun v35 H7 =>
 aL (fu ¢ false true H7 §H7 55 279 5 (some [(0,v18),(1,v8),(2,v30),(3,v14),(4,v35)])) fun v36 H8 =>
 aL (©true H8 56 209 [v36]) fun v37 H9 =>
 ak (aa ¢ 38 ~v1 0) fun v38 =>
 ak (aj ¢ ¥H9 5 ~v38) fun v39 =>
 ak (aH ¢ .eql 5 °58 (.const (.int .u8 1)) ~v39 (some (a8 1))) fun v40 =>
 br ~v40 (
 aL (bg H9 §H9 61 (Db ¢ §H9 61 170 £13 £13)) fun v41 H10 =>
 ak (aa ¢ 38 ~v1 4) fun v42 =>
 ak (aj ¢ ¥H10 33 ~v42) fun v43 =>
 ak (ch ¢ 33 (some [])) fun v44 =>
 ak (aH ¢ .neq 33 °63 °64 ~v43 ~v44) fun v45 =>
 br ~v45 (
 ak (aa ¢ 38 ~v1 4) fun v46 =>
 ak (aj ¢ ¥H10 33 ~v46) fun v47 =>
 aL (©true H10 69 208 [v47]) fun v48 H11 =>
 ak (aE ~v48 0) fun v49 =>
 ak (aE ~v48 1) fun v50 =>
 ak (aa ¢ 38 ~v1 6) fun v51 =>
 ak (aj ¢ ¥H11 36 ~v51) fun v52 =>
 aL (©true H11 75 210 [v52]) fun v53 H12 =>
 ak (aE ~v53 0) fun v54 =>
 ak (aE ~v53 1) fun v55 =>
 aL (fu ¢ false true H12 §H12 81 279 3 (some [(0,v37),(1,v49),(2,v54)])) fun v56 H13 =>
 aL (©true H13 82 209 [v56]) fun v57 H14 =>
 Q (.tup [v57,(.v (.int .i64 0))]) H14) (
 ak (aa ¢ 38 ~v1 6) fun v46 =>
 ak (aj ¢ ¥H10 36 ~v46) fun v47 =>
 aL (©true H10 75 210 [v47]) fun v48 H11 =>
 ak (aE ~v48 0) fun v49 =>
 ak (aE ~v48 1) fun v50 =>
 aL (fu ¢ false true H11 §H11 81 279 3 (some [(0,v37),(1,v41),(2,v49)])) fun v51 H12 =>
 aL (©true H12 82 209 [v51]) fun v52 H13 =>
 Q (.tup [v52,(.v (.int .i64 0))]) H13)) (
 ak (aH ¢ .eql 5 °58 (.const (.int .u8 3)) ~v39 (some (a8 3))) fun v41 =>
 br ~v41 (
 ak (aa ¢ 38 ~v1 5) fun v42 =>
 ak (aj ¢ ¥H9 29 ~v42) fun v43 =>
 ak (ch ¢ 31 (some [(0,v43)])) fun v44 =>
 aL (©true H9 89 162 [v44]) fun v45 H10 =>
 ak (aE ~v45 0) fun v46 =>
 ak (aE ~v45 1) fun v47 =>
 ak (eU ¢ ¥H10 170 ~v46 (some none) (oi (.v (.int .i64 5))) (some none)) fun v48 =>
 aL (de ¢ true H10 §H10 95 (some 170) (some 170) v37 v48) fun v49 H11 =>
 Q (.tup [v49,(.v (.int .i64 0))]) H11) (
 Q (.tup [v37,(.v (.int .i64 0))]) H9)))
theorem yL(x0:AV)(H:ad)(Q:AV→ad→Prop)(h : ∀g,rE g x0 H Q):b7 env Tryz.f163 0 [.code vO] [(0,x0)] H Q:=⟨fun g=>bc (live:=OU) (cut:=Pf) (n:=500) (Eq.mp (by kernel_rfl) (h g))⟩
noncomputable def zJ:Code:=(Tryz.f183.body).getD .skip
def GW:Nat→Option (List Nat):=fun i=>none
def Ha:Nat→Bool:=fun i=>false
def uU(g:Nat→AV)(x0:AV)(H:ad)(Q:AV→ad→Prop):Prop :=
 aL (bg H §H 1 (cd ¢ §H 1 38 ~x0)) fun v1 H1 =>
 ak (aa ¢ 38 ~v1 4) fun v2 =>
 ak (aj ¢ ¥H1 33 ~v2) fun v3 =>
 ak (ch ¢ 33 (some [])) fun v4 =>
 ak (aH ¢ .eql 33 °4 °5 ~v3 ~v4) fun v5 =>
 gQ v5 true (aa ¢ 38 ~v1 6) fun v6 =>
 gQ v5 true (aj ¢ ¥H1 36 ~v6) fun v7 =>
 gQ v5 true (aU ¢ false ¥H1 §H1 10 .len #[36] [v7]) fun v8 =>
 gQ v5 true (aH ¢ .eql 3 °10 ¤0 ~v8 £0) fun v9 =>
 ak (bp ~v5 ~v9 ¿) fun v10 =>
 Q v10 H1
theorem Gy(x0:AV)(H:ad)(Q:AV→ad→Prop)(h : ∀g,uU g x0 H Q):b7 env Tryz.f183 0 [.code zJ] [(0,x0)] H Q:=⟨fun g=>bc (live:=GW) (cut:=Ha) (n:=500) (Eq.mp (by kernel_rfl) (h g))⟩
noncomputable def zI:Code:=(Tryz.f184.body).getD .skip
def GV:Nat→Option (List Nat):=fun i=>none
def G9:Nat→Bool:=fun i=>false
def zR(g:Nat→AV)(x0:AV)(H:ad)(Q:AV→ad→Prop):Prop :=
 aL (bg H §H 1 (cd ¢ §H 1 38 ~x0)) fun v1 H1 =>
 ak (aa ¢ 38 ~v1 5) fun v2 =>
 ak (aj ¢ ¥H1 29 ~v2) fun v3 =>
 aL (©false H1 5 185 []) fun v4 H2 =>
 ak (aH ¢ .eql 29 °4 °5 ~v3 ~v4) fun v5 =>
 Q v5 H2
theorem Gx(x0:AV)(H:ad)(Q:AV→ad→Prop)(h : ∀g,zR g x0 H Q):b7 env Tryz.f184 0 [.code zI] [(0,x0)] H Q:=⟨fun g=>bc (live:=GV) (cut:=G9) (n:=500) (Eq.mp (by kernel_rfl) (h g))⟩
noncomputable def zH:Code:=(Tryz.f186.body).getD .skip
def GU:Nat→Option (List Nat):=fun i=>none
def G8:Nat→Bool:=fun i=>false
def gK(g:Nat→AV)(x0 x1:AV)(H:ad)(Q:AV→ad→Prop):Prop :=
 aL (bg H §H 2 (cd ¢ §H 2 38 ~x0)) fun v1 H1 =>
 ak (aa ¢ 38 ~v1 4) fun v2 =>
 ak (aj ¢ ¥H1 33 ~v2) fun v3 =>
 ak (ch ¢ 33 (some [])) fun v4 =>
 ak (aH ¢ .eql 33 °6 °7 ~v3 ~v4) fun v5 =>
 gQ v5 false (aa ¢ 38 ~v1 4) fun v6 =>
 gQ v5 false (aj ¢ ¥H1 33 ~v6) fun v7 =>
 gW v5 false H1 (©true H1 12 182 [v7]) fun v8 H2 =>
 gQ v5 false (aH ¢ .eql 42 °12 ¤0 ~v8 £0) fun v9 =>
 ak (bp ~v5 ¡ ~v9) fun v10 =>
 ak (aj ¢ ¥H2 137 ~x1) fun v11 =>
 ak (aj ¢ ¥H2 38 ~v1) fun v12 =>
 aL (bo env true (bj env) (bO env 0) H2 §H2 17 ~v11 [v12]) fun v13 H3 =>
 gQ v13 true (cz ~v10) fun v14 =>
 ak (bp ~v13 ~v14 ¿) fun v15 =>
 gQ v15 true (aa ¢ 38 ~v1 3) fun v16 =>
 gQ v15 true (aa ¢ 35 ~v16 0) fun v17 =>
 gQ v15 true (aa ¢ 33 ~v17 0) fun v18 =>
 gQ v15 true (aj ¢ ¥H3 31 ~v18) fun v19 =>
 gQ v15 true (aa ¢ 38 ~v1 1) fun v20 =>
 gQ v15 true (aj ¢ ¥H3 31 ~v20) fun v21 =>
 gQ v15 true (aH ¢ .eql 31 °25 °27 ~v19 ~v21) fun v22 =>
 ak (bp ~v15 ~v22 ¿) fun v23 =>
 gQ v23 true (aa ¢ 38 ~v1 6) fun v24 =>
 gQ v23 true (aj ¢ ¥H3 36 ~v24) fun v25 =>
 gQ v23 true (aU ¢ false ¥H3 §H3 33 .len #[36] [v25]) fun v26 =>
 gQ v23 true (aa ¢ 38 ~v1 3) fun v27 =>
 gQ v23 true (aa ¢ 35 ~v27 1) fun v28 =>
 gQ v23 true (aj ¢ ¥H3 3 ~v28) fun v29 =>
 gQ v23 true (aH ¢ .eql 3 °33 °36 ~v26 ~v29) fun v30 =>
 ak (bp ~v23 ~v30 ¿) fun v31 =>
 gQ v31 true (aa ¢ 38 ~v1 6) fun v32 =>
 gQ v31 true (aj ¢ ¥H3 36 ~v32) fun v33 =>
 gW v31 true H3 (©true H3 42 187 [v33]) fun v34 H4 =>
 gQ v31 true (aH ¢ .eql 42 °42 ¤0 ~v34 £0) fun v35 =>
 ak (bp ~v31 ~v35 ¿) fun v36 =>
 Q v36 H4
theorem Gw(x0 x1:AV)(H:ad)(Q:AV→ad→Prop)(h : ∀g,gK g x0 x1 H Q):b7 env Tryz.f186 0 [.code zH] [(0,x0),(1,x1)] H Q:=⟨fun g=>bc (live:=GU) (cut:=G8) (n:=500) (Eq.mp (by kernel_rfl) (h g))⟩
noncomputable def zG:Code:=(Tryz.f189.body).getD .skip
def GS:Nat→Option (List Nat):=fun i=>none
def G7:Nat→Bool:=fun i=>false
def zQ(g:Nat→AV)(x0 x1 x2:AV)(H:ad)(Q:AV→ad→Prop):Prop :=
 aL (bg H §H 3 (cd ¢ §H 3 38 ~x0)) fun v1 H1 =>
 ak (aj ¢ ¥H1 137 ~x1) fun v2 =>
 ak (aj ¢ ¥H1 38 ~v1) fun v3 =>
 aL (bo env true (bj env) (bO env 0) H1 §H1 7 ~v2 [v3]) fun v4 H2 =>
 gQ v4 true (aj ¢ ¥H2 137 ~x2) fun v5 =>
 gQ v4 true (aj ¢ ¥H2 38 ~v1) fun v6 =>
 gW v4 true H2 (bo env true (bj env) (bO env 0) H2 §H2 11 ~v5 [v6]) fun v7 H3 =>
 ak (bp ~v4 ~v7 ¿) fun v8 =>
 Q v8 H3
theorem Gv(x0 x1 x2:AV)(H:ad)(Q:AV→ad→Prop)(h : ∀g,zQ g x0 x1 x2 H Q):b7 env Tryz.f189 0 [.code zG] [(0,x0),(1,x1),(2,x2)] H Q:=⟨fun g=>bc (live:=GS) (cut:=G7) (n:=500) (Eq.mp (by kernel_rfl) (h g))⟩
noncomputable def zF:Code:=(Tryz.f191.body).getD .skip
def GR:Nat→Option (List Nat):=fun i=>none
def G6:Nat→Bool:=fun i=>false
def zP(g:Nat→AV)(x0 x1:AV)(H:ad)(Q:AV→ad→Prop):Prop :=
 aL (bg H §H 2 (cd ¢ §H 2 38 ~x0)) fun v1 H1 =>
 ak (aj ¢ ¥H1 137 ~x1) fun v2 =>
 ak (aj ¢ ¥H1 38 ~v1) fun v3 =>
 aL (bo env true (bj env) (bO env 0) H1 §H1 6 ~v2 [v3]) fun v4 H2 =>
 gQ v4 true (aa ¢ 38 ~v1 5) fun v5 =>
 gQ v4 true (aj ¢ ¥H2 29 ~v5) fun v6 =>
 gW v4 true H2 (©true H2 10 76 [v6]) fun v7 H3 =>
 gQ v4 true (aH ¢ .eql 42 °10 ¤0 ~v7 £0) fun v8 =>
 ak (bp ~v4 ~v8 ¿) fun v9 =>
 Q v9 H3
theorem Gu(x0 x1:AV)(H:ad)(Q:AV→ad→Prop)(h : ∀g,zP g x0 x1 H Q):b7 env Tryz.f191 0 [.code zF] [(0,x0),(1,x1)] H Q:=⟨fun g=>bc (live:=GR) (cut:=G6) (n:=500) (Eq.mp (by kernel_rfl) (h g))⟩
noncomputable def F8:Code:=(Tryz.f211.body).getD .skip
def Me:Nat→Option (List Nat):=fun i=>none
def ME:Nat→Bool:=fun i=>false
def mF(g:Nat→AV)(x0 x1:AV)(H:ad)(Q:AV→ad→Prop):Prop :=
 aL (bg H §H 2 (cd ¢ §H 2 38 ~x0)) fun v1 H1 =>
 aL (bg H1 §H1 3 (cd ¢ §H1 3 38 ~x1)) fun v2 H2 =>
 ak (aj ¢ ¥H2 38 ~v1) fun v3 =>
 ak (aj ¢ ¥H2 38 ~v2) fun v4 =>
 aL (bg H2 §H2 5 (bI ¢ §H2 5 38)) fun v5 H3 =>
 aL (bg H3 §H3 6 (bI ¢ §H3 6 38)) fun v6 H4 =>
 aL (aQ ¢ H4 38 ~v5 ~v3) fun v7 H5 =>
 aL (aQ ¢ H5 38 ~v6 ~v4) fun v8 H6 =>
  lD [(v2,v5)] [v5,v6] [] H6 ∧
 (ak (aa ¢ 38 ~v5 0) fun v9 =>
 ak (aj ¢ ¥H6 5 ~v9) fun v10 =>
 ak (aa ¢ 38 ~v6 0) fun v11 =>
 ak (aj ¢ ¥H6 5 ~v11) fun v12 =>
 ak (aH ¢ .eql 5 °10 °12 ~v10 ~v12) fun v13 =>
 gQ v13 true (aa ¢ 38 ~v5 1) fun v14 =>
 gQ v13 true (aj ¢ ¥H6 31 ~v14) fun v15 =>
 gQ v13 true (aa ¢ 38 ~v6 1) fun v16 =>
 gQ v13 true (aj ¢ ¥H6 31 ~v16) fun v17 =>
 gQ v13 true (aH ¢ .eql 31 °16 °18 ~v15 ~v17) fun v18 =>
 ak (bp ~v13 ~v18 ¿) fun v19 =>
 gQ v19 true (aa ¢ 38 ~v5 2) fun v20 =>
 gQ v19 true (aj ¢ ¥H6 3 ~v20) fun v21 =>
 gQ v19 true (aa ¢ 38 ~v6 2) fun v22 =>
 gQ v19 true (aj ¢ ¥H6 3 ~v22) fun v23 =>
 gQ v19 true (aH ¢ .eql 3 °23 °25 ~v21 ~v23) fun v24 =>
 ak (bp ~v19 ~v24 ¿) fun v25 =>
 gQ v25 true (aa ¢ 38 ~v5 3) fun v26 =>
 gQ v25 true (aj ¢ ¥H6 35 ~v26) fun v27 =>
 gQ v25 true (aa ¢ 38 ~v6 3) fun v28 =>
 gQ v25 true (aj ¢ ¥H6 35 ~v28) fun v29 =>
 gQ v25 true (aH ¢ .eql 35 °30 °32 ~v27 ~v29) fun v30 =>
 ak (bp ~v25 ~v30 ¿) fun v31 =>
 gQ v31 true (aa ¢ 38 ~v5 4) fun v32 =>
 gQ v31 true (aj ¢ ¥H6 33 ~v32) fun v33 =>
 gQ v31 true (aa ¢ 38 ~v6 4) fun v34 =>
 gQ v31 true (aj ¢ ¥H6 33 ~v34) fun v35 =>
 gQ v31 true (aH ¢ .eql 33 °37 °39 ~v33 ~v35) fun v36 =>
 ak (bp ~v31 ~v36 ¿) fun v37 =>
 gQ v37 true (aa ¢ 38 ~v5 5) fun v38 =>
 gQ v37 true (aj ¢ ¥H6 29 ~v38) fun v39 =>
 gQ v37 true (aa ¢ 38 ~v6 5) fun v40 =>
 gQ v37 true (aj ¢ ¥H6 29 ~v40) fun v41 =>
 gQ v37 true (aH ¢ .eql 29 °44 °46 ~v39 ~v41) fun v42 =>
 ak (bp ~v37 ~v42 ¿) fun v43 =>
 gQ v43 true (aa ¢ 38 ~v5 6) fun v44 =>
 gQ v43 true (aj ¢ ¥H6 36 ~v44) fun v45 =>
 gQ v43 true (aa ¢ 38 ~v6 6) fun v46 =>
 gQ v43 true (aj ¢ ¥H6 36 ~v46) fun v47 =>
 gW v43 true H6 (©true H6 54 226 [v45,v47]) fun v48 H7 =>
 ak (bp ~v43 ~v48 ¿) fun v49 =>
 Q v49 H7)
theorem Ly(x0 x1:AV)(H:ad)(Q:AV→ad→Prop)(h : ∀g,mF g x0 x1 H Q):b7 env Tryz.f211 0 [.code F8] [(0,x0),(1,x1)] H Q:=⟨fun g=>bc (live:=Me) (cut:=ME) (n:=500) (Eq.mp (by kernel_rfl) (h g))⟩
end Go.Proofs.YtmkmimgokagimaaGreat
