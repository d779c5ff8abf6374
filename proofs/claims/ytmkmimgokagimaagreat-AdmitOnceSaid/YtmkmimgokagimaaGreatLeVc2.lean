/-
  What is to be shown of each function, computed from its code. No statement of a seat is proved here.
-/
import Derived.Test.YtmkmimgokagimaaGreatLeTy
set_option linter.unusedVariables false
set_option maxRecDepth 1000000
namespace Go.Proofs.YtmkmimgokagimaaGreat
open Go.Ab
local notation:max "©" b:max h:max n:max f:max a:max=>aG env b (limf env) (limt env 0) h (Ref.mk 0 n (Heap.gen h 0 n) 0) (some (AV.fn (Fn.func f) [] [])) a
local notation:max "§" h:max n:max=>Ref.mk 0 n (Heap.gen h 0 n) 0
local notation:max "~" a:max=>some a
local notation:max "¥" h:max=>Heap.get h
local notation:max "¤" n:max=>(Operand.const (Value.int IntKind.i64 n))
local notation:max "£" n:max=>some (AV.v (Value.int IntKind.i64 n))
local notation:max "¡" => some (AV.v (Value.bool true))
local notation:max "¿" => some (AV.v (Value.bool false))
local notation:max "°" n:max=>(Operand.tmp n)
local notation:max "¢" => env.P
noncomputable def lJ:Code:=(Tryz.f62.body).getD .skip
def ql:Nat→Option (List Nat):=fun i=>none
def qu:Nat→Bool:=fun i=>false
def bW(g:Nat→AV)(x0 x1:AV)(H:Heap)(Q:AV→Heap→Prop):Prop :=
 doW (nRes H §H 2 (qBox ¢ §H 2 38 ~x0)) fun v1 H1 =>
 doW (nRes H1 §H1 3 (qBox ¢ §H1 3 38 ~x1)) fun v2 H2 =>
 doQ (aa ¢ 38 ~v1 0) fun v3 =>
 doQ (ai ¢ ¥H2 5 ~v3) fun v4 =>
 doQ (aa ¢ 38 ~v2 0) fun v5 =>
 doQ (ai ¢ ¥H2 5 ~v5) fun v6 =>
 doQ (qBin ¢ .eql 5 °6 °8 ~v4 ~v6) fun v7 =>
 gQ v7 true (aa ¢ 38 ~v1 1) fun v8 =>
 gQ v7 true (ai ¢ ¥H2 31 ~v8) fun v9 =>
 gQ v7 true (aa ¢ 38 ~v2 1) fun v10 =>
 gQ v7 true (ai ¢ ¥H2 31 ~v10) fun v11 =>
 gQ v7 true (qBin ¢ .eql 31 °12 °14 ~v9 ~v11) fun v12 =>
 doQ (aM ~v7 ~v12 ¿) fun v13 =>
 gQ v13 true (aa ¢ 38 ~v1 2) fun v14 =>
 gQ v13 true (ai ¢ ¥H2 3 ~v14) fun v15 =>
 gQ v13 true (aa ¢ 38 ~v2 2) fun v16 =>
 gQ v13 true (ai ¢ ¥H2 3 ~v16) fun v17 =>
 gQ v13 true (qBin ¢ .eql 3 °19 °21 ~v15 ~v17) fun v18 =>
 doQ (aM ~v13 ~v18 ¿) fun v19 =>
 gQ v19 true (aa ¢ 38 ~v1 3) fun v20 =>
 gQ v19 true (ai ¢ ¥H2 35 ~v20) fun v21 =>
 gQ v19 true (aa ¢ 38 ~v2 3) fun v22 =>
 gQ v19 true (ai ¢ ¥H2 35 ~v22) fun v23 =>
 gQ v19 true (qBin ¢ .eql 35 °26 °28 ~v21 ~v23) fun v24 =>
 doQ (aM ~v19 ~v24 ¿) fun v25 =>
 gQ v25 true (aa ¢ 38 ~v1 4) fun v26 =>
 gQ v25 true (ai ¢ ¥H2 33 ~v26) fun v27 =>
 gQ v25 true (aa ¢ 38 ~v2 4) fun v28 =>
 gQ v25 true (ai ¢ ¥H2 33 ~v28) fun v29 =>
 gQ v25 true (qBin ¢ .eql 33 °33 °35 ~v27 ~v29) fun v30 =>
 doQ (aM ~v25 ~v30 ¿) fun v31 =>
 gQ v31 true (aa ¢ 38 ~v1 5) fun v32 =>
 gQ v31 true (ai ¢ ¥H2 29 ~v32) fun v33 =>
 gQ v31 true (aa ¢ 38 ~v2 5) fun v34 =>
 gQ v31 true (ai ¢ ¥H2 29 ~v34) fun v35 =>
 gQ v31 true (qBin ¢ .eql 29 °40 °42 ~v33 ~v35) fun v36 =>
 doQ (aM ~v31 ~v36 ¿) fun v37 =>
 gQ v37 true (aa ¢ 38 ~v1 6) fun v38 =>
 gQ v37 true (ai ¢ ¥H2 36 ~v38) fun v39 =>
 gQ v37 true (aa ¢ 38 ~v2 6) fun v40 =>
 gQ v37 true (ai ¢ ¥H2 36 ~v40) fun v41 =>
 gW v37 true H2 (©true H2 50 133 [v39,v41]) fun v42 H3 =>
 doQ (aM ~v37 ~v42 ¿) fun v43 =>
 Q v43 H3
theorem p5(x0 x1:AV)(H:Heap)(Q:AV→Heap→Prop)(h : ∀g,bW g x0 x1 H Q):GoL env Tryz.f62 0 [.code lJ] [(0,x0),(1,x1)] H Q:=⟨fun g=>aJ (live:=ql) (cut:=qu) (n:=500) (Eq.mp (by kernel_rfl) (h g))⟩
noncomputable def Ap:Code:=(Tryz.f70.body).getD .skip
def EW:Nat→Option (List Nat):=fun i=>none
def Fp:Nat→Bool:=fun i=>false
def ga(g:Nat→AV)(x0:AV)(H:Heap)(Q:AV→Heap→Prop):Prop :=
 doW (nRes H §H 1 (qBox ¢ §H 1 38 ~x0)) fun v1 H1 =>
 doQ (aa ¢ 38 ~v1 0) fun v2 =>
 doQ (ai ¢ ¥H1 5 ~v2) fun v3 =>
 doQ (qBin ¢ .eql 5 °4 (.const (.int .u8 0)) ~v3 (some (a8 0))) fun v4 =>
 gQ v4 false (aa ¢ 38 ~v1 0) fun v5 =>
 gQ v4 false (ai ¢ ¥H1 5 ~v5) fun v6 =>
 gQ v4 false (qBin ¢ .geq 5 °8 (.const (.int .u8 4)) ~v6 (some (a8 4))) fun v7 =>
 doQ (aM ~v4 ¡ ~v7) fun v8 =>
 gQ v8 false (aa ¢ 38 ~v1 1) fun v9 =>
 gQ v8 false (ai ¢ ¥H1 31 ~v9) fun v10 =>
 gW v8 false H1 (©false H1 14 91 [v10]) fun v11 H2 =>
 gQ v8 false (qBin ¢ .neq 42 °14 ¤0 ~v11 £0) fun v12 =>
 doQ (aM ~v8 ¡ ~v12) fun v13 =>
 gQ v13 false (aa ¢ 38 ~v1 2) fun v14 =>
 gQ v13 false (ai ¢ ¥H2 3 ~v14) fun v15 =>
 gQ v13 false (qBin ¢ .lss 3 °19 ¤1 ~v15 £1) fun v16 =>
 doQ (aM ~v13 ¡ ~v16) fun v17 =>
 gQ v17 false (aa ¢ 38 ~v1 2) fun v18 =>
 gQ v17 false (ai ¢ ¥H2 3 ~v18) fun v19 =>
 gQ v17 false (qBin ¢ .geq 3 °24 ¤16777216 ~v19 £16777216) fun v20 =>
 doQ (aM ~v17 ¡ ~v20) fun v21 =>
 gQ v21 false (aa ¢ 38 ~v1 3) fun v22 =>
 gQ v21 false (ai ¢ ¥H2 35 ~v22) fun v23 =>
 gW v21 false H2 (©false H2 30 135 [v23]) fun v24 H3 =>
 gQ v21 false (qBin ¢ .neq 42 °30 ¤0 ~v24 £0) fun v25 =>
 doQ (aM ~v21 ¡ ~v25) fun v26 =>
 gW v26 false H3 (©false H3 34 136 []) fun v27 H4 =>
 gQ v26 false (aa ¢ 38 ~v1 0) fun v28 =>
 gQ v26 false (ai ¢ ¥H4 5 ~v28) fun v29 =>
 gQ v26 false (nN ¢ 204 ~v27 ~v29) fun v30 =>
 gQ v26 false (nO ¢ 203 ~v30 0) fun v31 =>
 gQ v26 false (ai ¢ ¥H4 38 ~v1) fun v32 =>
 gW v26 false H4 (aG env true (limf env) (limt env 0) H4 §H4 40 ~v31 [v32]) fun v33 H5 =>
 gQ v26 false (qUn ¢ .not ~v33) fun v34 =>
 doQ (aM ~v26 ¡ ~v34) fun v35 =>
 br ~v35 (
 Q (.v (.int .i64 8)) H5) (
 Q (.v (.int .i64 0)) H5)
theorem Ek(x0:AV)(H:Heap)(Q:AV→Heap→Prop)(h : ∀g,ga g x0 H Q):GoL env Tryz.f70 0 [.code Ap] [(0,x0)] H Q:=⟨fun g=>aJ (live:=EW) (cut:=Fp) (n:=500) (Eq.mp (by kernel_rfl) (h g))⟩
noncomputable def sW:Code:=(Tryz.f108.body).getD .skip
def Hj:Nat→Option (List Nat):=fun i=>none
def HG:Nat→Bool:=fun i=>false
def sZ(g:Nat→AV)(x0:AV)(H:Heap)(Q:AV→Heap→Prop):Prop :=
 doW (nRes H §H 1 (qBox ¢ §H 1 38 ~x0)) fun v1 H1 =>
 doW (nRes H1 §H1 2 (bq ¢ §H1 2 38)) fun v2 H2 =>
 doQ (aa ¢ 38 ~v1 6) fun v3 =>
 doQ (ai ¢ ¥H2 36 ~v3) fun v4 =>
 doW (©true H2 5 173 [v4]) fun v5 H3 =>
 doQ (aa ¢ 38 ~v1 6) fun v6 =>
 doW (aC ¢ H3 36 ~v6 ~v5) fun v7 H4 =>
 doQ (ai ¢ ¥H4 38 ~v1) fun v8 =>
 doW (aC ¢ H4 38 ~v2 ~v8) fun v9 H5 =>
 doQ (ba ¢ H5 v2 38) fun v10 =>
 Q v10 H5
theorem vP(x0:AV)(H:Heap)(Q:AV→Heap→Prop)(h : ∀g,sZ g x0 H Q):GoL env Tryz.f108 0 [.code sW] [(0,x0)] H Q:=⟨fun g=>aJ (live:=Hj) (cut:=HG) (n:=500) (Eq.mp (by kernel_rfl) (h g))⟩
noncomputable def Ao:Code:=(Tryz.f121.body).getD .skip
def EV:Nat→Option (List Nat):=fun i=>none
def Fo:Nat→Bool:=fun i=>false
def Av(g:Nat→AV)(x0:AV)(H:Heap)(Q:AV→Heap→Prop):Prop :=
 doW (nRes H §H 1 (qBox ¢ §H 1 38 ~x0)) fun v1 H1 =>
 doQ (aa ¢ 38 ~v1 6) fun v2 =>
 doQ (ai ¢ ¥H1 36 ~v2) fun v3 =>
 doW (©true H1 5 176 [v3,(.v (.int .i32 (-1)))]) fun v4 H2 =>
 doQ (qUn ¢ .not ~v4) fun v5 =>
 Q v5 H2
theorem Ej(x0:AV)(H:Heap)(Q:AV→Heap→Prop)(h : ∀g,Av g x0 H Q):GoL env Tryz.f121 0 [.code Ao] [(0,x0)] H Q:=⟨fun g=>aJ (live:=EV) (cut:=Fo) (n:=500) (Eq.mp (by kernel_rfl) (h g))⟩
noncomputable def rP:Code:=(Tryz.f163.body).getD .skip
def JA:Nat→Option (List Nat):=fun i=>none
def Kh:Nat→Bool:=fun i=>false
def pL(g:Nat→AV)(x0:AV)(H:Heap)(Q:AV→Heap→Prop):Prop :=
 doW (nRes H §H 1 (qBox ¢ §H 1 38 ~x0)) fun v1 H1 =>
 doQ (ai ¢ ¥H1 38 ~v1) fun v2 =>
 doW (©true H1 16 70 [v2]) fun v3 H2 =>
 doQ (qBin ¢ .neq 42 °17 ¤0 ~v3 £0) fun v4 =>
 br ~v4 (
 Q (.tup [(.v (.slice none 0 0)),v3]) H2) (
 doQ (aa ¢ 38 ~v1 1) fun v5 =>
 doQ (ai ¢ ¥H2 31 ~v5) fun v6 =>
 doW (©true H2 23 162 [v6]) fun v7 H3 =>
 doQ (aq ~v7 0) fun v8 =>
 doQ (aq ~v7 1) fun v9 =>
 doQ (aa ¢ 38 ~v1 3) fun v10 =>
 doQ (aa ¢ 35 ~v10 0) fun v11 =>
 doQ (ai ¢ ¥H3 33 ~v11) fun v12 =>
 doW (©true H3 30 208 [v12]) fun v13 H4 =>
 doQ (aq ~v13 0) fun v14 =>
 doQ (aq ~v13 1) fun v15 =>
 doQ (aa ¢ 38 ~v1 0) fun v16 =>
 doQ (ai ¢ ¥H4 5 ~v16) fun v17 =>
 doW (gm ¢ false true H4 §H4 35 170 1 (some [(0,v17)])) fun v18 H5 =>
 doQ (aa ¢ 38 ~v1 2) fun v19 =>
 doQ (ai ¢ ¥H5 3 ~v19) fun v20 =>
 doQ (qBin ¢ .shr 3 °38 (.const (.int .u64 16)) ~v20 (some (.v (.int .u64 16)))) fun v21 =>
 doQ (cL ¢ ¥H5 §H5 40 3 5 ~v21) fun v22 =>
 doQ (aa ¢ 38 ~v1 2) fun v23 =>
 doQ (ai ¢ ¥H5 3 ~v23) fun v24 =>
 doQ (qBin ¢ .shr 3 °42 (.const (.int .u64 8)) ~v24 (some (.v (.int .u64 8)))) fun v25 =>
 doQ (cL ¢ ¥H5 §H5 44 3 5 ~v25) fun v26 =>
 doQ (aa ¢ 38 ~v1 2) fun v27 =>
 doQ (ai ¢ ¥H5 3 ~v27) fun v28 =>
 doQ (cL ¢ ¥H5 §H5 47 3 5 ~v28) fun v29 =>
 doW (gm ¢ false true H5 §H5 48 170 3 (some [(0,v22),(1,v26),(2,v29)])) fun v30 H6 =>
 doQ (aa ¢ 38 ~v1 3) fun v31 =>
 doQ (aa ¢ 35 ~v31 1) fun v32 =>
 doQ (ai ¢ ¥H6 3 ~v32) fun v33 =>
 doQ (cL ¢ ¥H6 §H6 53 3 5 ~v33) fun v34 =>
 doW (gm ¢ false true H6 §H6 54 170 1 (some [(0,v34)])) fun v35 H7 =>
 doW (gm ¢ false true H7 §H7 55 279 5 (some [(0,v18),(1,v8),(2,v30),(3,v14),(4,v35)])) fun v36 H8 =>
 doW (©true H8 56 209 [v36]) fun v37 H9 =>
 doQ (aa ¢ 38 ~v1 0) fun v38 =>
 doQ (ai ¢ ¥H9 5 ~v38) fun v39 =>
 doQ (qBin ¢ .eql 5 °58 (.const (.int .u8 1)) ~v39 (some (a8 1))) fun v40 =>
 br ~v40 (
 doW (nRes H9 §H9 61 (Dx ¢ §H9 61 170 £13 £13)) fun v41 H10 =>
 doQ (aa ¢ 38 ~v1 4) fun v42 =>
 doQ (ai ¢ ¥H10 33 ~v42) fun v43 =>
 doQ (bI ¢ 33 (some [])) fun v44 =>
 doQ (qBin ¢ .neq 33 °63 °64 ~v43 ~v44) fun v45 =>
 br ~v45 (
 doQ (aa ¢ 38 ~v1 4) fun v46 =>
 doQ (ai ¢ ¥H10 33 ~v46) fun v47 =>
 doW (©true H10 69 208 [v47]) fun v48 H11 =>
 doQ (aq ~v48 0) fun v49 =>
 doQ (aq ~v48 1) fun v50 =>
 doQ (aa ¢ 38 ~v1 6) fun v51 =>
 doQ (ai ¢ ¥H11 36 ~v51) fun v52 =>
 doW (©true H11 75 210 [v52]) fun v53 H12 =>
 doQ (aq ~v53 0) fun v54 =>
 doQ (aq ~v53 1) fun v55 =>
 doW (gm ¢ false true H12 §H12 81 279 3 (some [(0,v37),(1,v49),(2,v54)])) fun v56 H13 =>
 doW (©true H13 82 209 [v56]) fun v57 H14 =>
 Q (.tup [v57,(.v (.int .i64 0))]) H14) (
 doQ (aa ¢ 38 ~v1 6) fun v46 =>
 doQ (ai ¢ ¥H10 36 ~v46) fun v47 =>
 doW (©true H10 75 210 [v47]) fun v48 H11 =>
 doQ (aq ~v48 0) fun v49 =>
 doQ (aq ~v48 1) fun v50 =>
 doW (gm ¢ false true H11 §H11 81 279 3 (some [(0,v37),(1,v41),(2,v49)])) fun v51 H12 =>
 doW (©true H12 82 209 [v51]) fun v52 H13 =>
 Q (.tup [v52,(.v (.int .i64 0))]) H13)) (
 doQ (qBin ¢ .eql 5 °58 (.const (.int .u8 3)) ~v39 (some (a8 3))) fun v41 =>
 br ~v41 (
 doQ (aa ¢ 38 ~v1 5) fun v42 =>
 doQ (ai ¢ ¥H9 29 ~v42) fun v43 =>
 doQ (bI ¢ 31 (some [(0,v43)])) fun v44 =>
 doW (©true H9 89 162 [v44]) fun v45 H10 =>
 doQ (aq ~v45 0) fun v46 =>
 doQ (aq ~v45 1) fun v47 =>
 doQ (fc ¢ ¥H10 170 ~v46 (some none) (oi (.v (.int .i64 5))) (some none)) fun v48 =>
 doW (cO ¢ true H10 §H10 95 (some 170) (some 170) v37 v48) fun v49 H11 =>
 Q (.tup [v49,(.v (.int .i64 0))]) H11) (
 Q (.tup [v37,(.v (.int .i64 0))]) H9)))
theorem uH(x0:AV)(H:Heap)(Q:AV→Heap→Prop)(h : ∀g,pL g x0 H Q):GoL env Tryz.f163 0 [.code rP] [(0,x0)] H Q:=⟨fun g=>aJ (live:=JA) (cut:=Kh) (n:=500) (Eq.mp (by kernel_rfl) (h g))⟩
noncomputable def vB:Code:=(Tryz.f183.body).getD .skip
def Cy:Nat→Option (List Nat):=fun i=>none
def CT:Nat→Bool:=fun i=>false
def qC(g:Nat→AV)(x0:AV)(H:Heap)(Q:AV→Heap→Prop):Prop :=
 doW (nRes H §H 1 (qBox ¢ §H 1 38 ~x0)) fun v1 H1 =>
 doQ (aa ¢ 38 ~v1 4) fun v2 =>
 doQ (ai ¢ ¥H1 33 ~v2) fun v3 =>
 doQ (bI ¢ 33 (some [])) fun v4 =>
 doQ (qBin ¢ .eql 33 °4 °5 ~v3 ~v4) fun v5 =>
 gQ v5 true (aa ¢ 38 ~v1 6) fun v6 =>
 gQ v5 true (ai ¢ ¥H1 36 ~v6) fun v7 =>
 gQ v5 true (aA ¢ false ¥H1 §H1 10 .len #[36] [v7]) fun v8 =>
 gQ v5 true (qBin ¢ .eql 3 °10 ¤0 ~v8 £0) fun v9 =>
 doQ (aM ~v5 ~v9 ¿) fun v10 =>
 Q v10 H1
theorem B1(x0:AV)(H:Heap)(Q:AV→Heap→Prop)(h : ∀g,qC g x0 H Q):GoL env Tryz.f183 0 [.code vB] [(0,x0)] H Q:=⟨fun g=>aJ (live:=Cy) (cut:=CT) (n:=500) (Eq.mp (by kernel_rfl) (h g))⟩
noncomputable def vA:Code:=(Tryz.f184.body).getD .skip
def Cx:Nat→Option (List Nat):=fun i=>none
def CS:Nat→Bool:=fun i=>false
def vK(g:Nat→AV)(x0:AV)(H:Heap)(Q:AV→Heap→Prop):Prop :=
 doW (nRes H §H 1 (qBox ¢ §H 1 38 ~x0)) fun v1 H1 =>
 doQ (aa ¢ 38 ~v1 5) fun v2 =>
 doQ (ai ¢ ¥H1 29 ~v2) fun v3 =>
 doW (©false H1 5 185 []) fun v4 H2 =>
 doQ (qBin ¢ .eql 29 °4 °5 ~v3 ~v4) fun v5 =>
 Q v5 H2
theorem B0(x0:AV)(H:Heap)(Q:AV→Heap→Prop)(h : ∀g,vK g x0 H Q):GoL env Tryz.f184 0 [.code vA] [(0,x0)] H Q:=⟨fun g=>aJ (live:=Cx) (cut:=CS) (n:=500) (Eq.mp (by kernel_rfl) (h g))⟩
noncomputable def vx:Code:=(Tryz.f186.body).getD .skip
def Cw:Nat→Option (List Nat):=fun i=>none
def CR:Nat→Bool:=fun i=>false
def fb(g:Nat→AV)(x0 x1:AV)(H:Heap)(Q:AV→Heap→Prop):Prop :=
 doW (nRes H §H 2 (qBox ¢ §H 2 38 ~x0)) fun v1 H1 =>
 doQ (aa ¢ 38 ~v1 4) fun v2 =>
 doQ (ai ¢ ¥H1 33 ~v2) fun v3 =>
 doQ (bI ¢ 33 (some [])) fun v4 =>
 doQ (qBin ¢ .eql 33 °6 °7 ~v3 ~v4) fun v5 =>
 gQ v5 false (aa ¢ 38 ~v1 4) fun v6 =>
 gQ v5 false (ai ¢ ¥H1 33 ~v6) fun v7 =>
 gW v5 false H1 (©true H1 12 182 [v7]) fun v8 H2 =>
 gQ v5 false (qBin ¢ .eql 42 °12 ¤0 ~v8 £0) fun v9 =>
 doQ (aM ~v5 ¡ ~v9) fun v10 =>
 doQ (ai ¢ ¥H2 137 ~x1) fun v11 =>
 doQ (ai ¢ ¥H2 38 ~v1) fun v12 =>
 doW (aG env true (limf env) (limt env 0) H2 §H2 17 ~v11 [v12]) fun v13 H3 =>
 gQ v13 true (qVal ~v10) fun v14 =>
 doQ (aM ~v13 ~v14 ¿) fun v15 =>
 gQ v15 true (aa ¢ 38 ~v1 3) fun v16 =>
 gQ v15 true (aa ¢ 35 ~v16 0) fun v17 =>
 gQ v15 true (aa ¢ 33 ~v17 0) fun v18 =>
 gQ v15 true (ai ¢ ¥H3 31 ~v18) fun v19 =>
 gQ v15 true (aa ¢ 38 ~v1 1) fun v20 =>
 gQ v15 true (ai ¢ ¥H3 31 ~v20) fun v21 =>
 gQ v15 true (qBin ¢ .eql 31 °25 °27 ~v19 ~v21) fun v22 =>
 doQ (aM ~v15 ~v22 ¿) fun v23 =>
 gQ v23 true (aa ¢ 38 ~v1 6) fun v24 =>
 gQ v23 true (ai ¢ ¥H3 36 ~v24) fun v25 =>
 gQ v23 true (aA ¢ false ¥H3 §H3 33 .len #[36] [v25]) fun v26 =>
 gQ v23 true (aa ¢ 38 ~v1 3) fun v27 =>
 gQ v23 true (aa ¢ 35 ~v27 1) fun v28 =>
 gQ v23 true (ai ¢ ¥H3 3 ~v28) fun v29 =>
 gQ v23 true (qBin ¢ .eql 3 °33 °36 ~v26 ~v29) fun v30 =>
 doQ (aM ~v23 ~v30 ¿) fun v31 =>
 gQ v31 true (aa ¢ 38 ~v1 6) fun v32 =>
 gQ v31 true (ai ¢ ¥H3 36 ~v32) fun v33 =>
 gW v31 true H3 (©true H3 42 187 [v33]) fun v34 H4 =>
 gQ v31 true (qBin ¢ .eql 42 °42 ¤0 ~v34 £0) fun v35 =>
 doQ (aM ~v31 ~v35 ¿) fun v36 =>
 Q v36 H4
theorem BZ(x0 x1:AV)(H:Heap)(Q:AV→Heap→Prop)(h : ∀g,fb g x0 x1 H Q):GoL env Tryz.f186 0 [.code vx] [(0,x0),(1,x1)] H Q:=⟨fun g=>aJ (live:=Cw) (cut:=CR) (n:=500) (Eq.mp (by kernel_rfl) (h g))⟩
noncomputable def vw:Code:=(Tryz.f189.body).getD .skip
def Cv:Nat→Option (List Nat):=fun i=>none
def CQ:Nat→Bool:=fun i=>false
def vJ(g:Nat→AV)(x0 x1 x2:AV)(H:Heap)(Q:AV→Heap→Prop):Prop :=
 doW (nRes H §H 3 (qBox ¢ §H 3 38 ~x0)) fun v1 H1 =>
 doQ (ai ¢ ¥H1 137 ~x1) fun v2 =>
 doQ (ai ¢ ¥H1 38 ~v1) fun v3 =>
 doW (aG env true (limf env) (limt env 0) H1 §H1 7 ~v2 [v3]) fun v4 H2 =>
 gQ v4 true (ai ¢ ¥H2 137 ~x2) fun v5 =>
 gQ v4 true (ai ¢ ¥H2 38 ~v1) fun v6 =>
 gW v4 true H2 (aG env true (limf env) (limt env 0) H2 §H2 11 ~v5 [v6]) fun v7 H3 =>
 doQ (aM ~v4 ~v7 ¿) fun v8 =>
 Q v8 H3
theorem BY(x0 x1 x2:AV)(H:Heap)(Q:AV→Heap→Prop)(h : ∀g,vJ g x0 x1 x2 H Q):GoL env Tryz.f189 0 [.code vw] [(0,x0),(1,x1),(2,x2)] H Q:=⟨fun g=>aJ (live:=Cv) (cut:=CQ) (n:=500) (Eq.mp (by kernel_rfl) (h g))⟩
noncomputable def vv:Code:=(Tryz.f191.body).getD .skip
def Cu:Nat→Option (List Nat):=fun i=>none
def CP:Nat→Bool:=fun i=>false
def vI(g:Nat→AV)(x0 x1:AV)(H:Heap)(Q:AV→Heap→Prop):Prop :=
 doW (nRes H §H 2 (qBox ¢ §H 2 38 ~x0)) fun v1 H1 =>
 doQ (ai ¢ ¥H1 137 ~x1) fun v2 =>
 doQ (ai ¢ ¥H1 38 ~v1) fun v3 =>
 doW (aG env true (limf env) (limt env 0) H1 §H1 6 ~v2 [v3]) fun v4 H2 =>
 gQ v4 true (aa ¢ 38 ~v1 5) fun v5 =>
 gQ v4 true (ai ¢ ¥H2 29 ~v5) fun v6 =>
 gW v4 true H2 (©true H2 10 76 [v6]) fun v7 H3 =>
 gQ v4 true (qBin ¢ .eql 42 °10 ¤0 ~v7 £0) fun v8 =>
 doQ (aM ~v4 ~v8 ¿) fun v9 =>
 Q v9 H3
theorem BX(x0 x1:AV)(H:Heap)(Q:AV→Heap→Prop)(h : ∀g,vI g x0 x1 H Q):GoL env Tryz.f191 0 [.code vv] [(0,x0),(1,x1)] H Q:=⟨fun g=>aJ (live:=Cu) (cut:=CP) (n:=500) (Eq.mp (by kernel_rfl) (h g))⟩
noncomputable def BM:Code:=(Tryz.f211.body).getD .skip
def Hk:Nat→Option (List Nat):=fun i=>none
def HH:Nat→Bool:=fun i=>false
def kB(g:Nat→AV)(x0 x1:AV)(H:Heap)(Q:AV→Heap→Prop):Prop :=
 doW (nRes H §H 2 (qBox ¢ §H 2 38 ~x0)) fun v1 H1 =>
 doW (nRes H1 §H1 3 (qBox ¢ §H1 3 38 ~x1)) fun v2 H2 =>
 doQ (ai ¢ ¥H2 38 ~v1) fun v3 =>
 doQ (ai ¢ ¥H2 38 ~v2) fun v4 =>
 doW (nRes H2 §H2 5 (bq ¢ §H2 5 38)) fun v5 H3 =>
 doW (nRes H3 §H3 6 (bq ¢ §H3 6 38)) fun v6 H4 =>
 doW (aC ¢ H4 38 ~v5 ~v3) fun v7 H5 =>
 doW (aC ¢ H5 38 ~v6 ~v4) fun v8 H6 =>
  jn [(v2,v5)] [v5,v6] [] H6 ∧
 (doQ (aa ¢ 38 ~v5 0) fun v9 =>
 doQ (ai ¢ ¥H6 5 ~v9) fun v10 =>
 doQ (aa ¢ 38 ~v6 0) fun v11 =>
 doQ (ai ¢ ¥H6 5 ~v11) fun v12 =>
 doQ (qBin ¢ .eql 5 °10 °12 ~v10 ~v12) fun v13 =>
 gQ v13 true (aa ¢ 38 ~v5 1) fun v14 =>
 gQ v13 true (ai ¢ ¥H6 31 ~v14) fun v15 =>
 gQ v13 true (aa ¢ 38 ~v6 1) fun v16 =>
 gQ v13 true (ai ¢ ¥H6 31 ~v16) fun v17 =>
 gQ v13 true (qBin ¢ .eql 31 °16 °18 ~v15 ~v17) fun v18 =>
 doQ (aM ~v13 ~v18 ¿) fun v19 =>
 gQ v19 true (aa ¢ 38 ~v5 2) fun v20 =>
 gQ v19 true (ai ¢ ¥H6 3 ~v20) fun v21 =>
 gQ v19 true (aa ¢ 38 ~v6 2) fun v22 =>
 gQ v19 true (ai ¢ ¥H6 3 ~v22) fun v23 =>
 gQ v19 true (qBin ¢ .eql 3 °23 °25 ~v21 ~v23) fun v24 =>
 doQ (aM ~v19 ~v24 ¿) fun v25 =>
 gQ v25 true (aa ¢ 38 ~v5 3) fun v26 =>
 gQ v25 true (ai ¢ ¥H6 35 ~v26) fun v27 =>
 gQ v25 true (aa ¢ 38 ~v6 3) fun v28 =>
 gQ v25 true (ai ¢ ¥H6 35 ~v28) fun v29 =>
 gQ v25 true (qBin ¢ .eql 35 °30 °32 ~v27 ~v29) fun v30 =>
 doQ (aM ~v25 ~v30 ¿) fun v31 =>
 gQ v31 true (aa ¢ 38 ~v5 4) fun v32 =>
 gQ v31 true (ai ¢ ¥H6 33 ~v32) fun v33 =>
 gQ v31 true (aa ¢ 38 ~v6 4) fun v34 =>
 gQ v31 true (ai ¢ ¥H6 33 ~v34) fun v35 =>
 gQ v31 true (qBin ¢ .eql 33 °37 °39 ~v33 ~v35) fun v36 =>
 doQ (aM ~v31 ~v36 ¿) fun v37 =>
 gQ v37 true (aa ¢ 38 ~v5 5) fun v38 =>
 gQ v37 true (ai ¢ ¥H6 29 ~v38) fun v39 =>
 gQ v37 true (aa ¢ 38 ~v6 5) fun v40 =>
 gQ v37 true (ai ¢ ¥H6 29 ~v40) fun v41 =>
 gQ v37 true (qBin ¢ .eql 29 °44 °46 ~v39 ~v41) fun v42 =>
 doQ (aM ~v37 ~v42 ¿) fun v43 =>
 gQ v43 true (aa ¢ 38 ~v5 6) fun v44 =>
 gQ v43 true (ai ¢ ¥H6 36 ~v44) fun v45 =>
 gQ v43 true (aa ¢ 38 ~v6 6) fun v46 =>
 gQ v43 true (ai ¢ ¥H6 36 ~v46) fun v47 =>
 gW v43 true H6 (©true H6 54 226 [v45,v47]) fun v48 H7 =>
 doQ (aM ~v43 ~v48 ¿) fun v49 =>
 Q v49 H7)
theorem GO(x0 x1:AV)(H:Heap)(Q:AV→Heap→Prop)(h : ∀g,kB g x0 x1 H Q):GoL env Tryz.f211 0 [.code BM] [(0,x0),(1,x1)] H Q:=⟨fun g=>aJ (live:=Hk) (cut:=HH) (n:=500) (Eq.mp (by kernel_rfl) (h g))⟩
end Go.Proofs.YtmkmimgokagimaaGreat
