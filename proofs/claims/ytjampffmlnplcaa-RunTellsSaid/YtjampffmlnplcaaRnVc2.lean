/-
  What is to be shown of each function, computed from its code. No statement of a seat is proved here.
-/
import Derived.Test.YtjampffmlnplcaaRnTy
set_option linter.unusedVariables false
set_option maxRecDepth 1000000
namespace Go.Proofs.Ytjampffmlnplcaa
open Go.Ab
local notation:max "©" b:max h:max n:max f:max a:max=>cY env b (limf env) (limt env 0) h (Ref.mk 0 n (Heap.gen h 0 n) 0) (some (AV.fn (Fn.func f) [] [])) a
local notation:max "§" h:max n:max=>Ref.mk 0 n (Heap.gen h 0 n) 0
local notation:max "~" a:max=>some a
local notation:max "¥" h:max=>Heap.get h
local notation:max "¤" n:max=>(Operand.const (Value.int IntKind.i64 n))
local notation:max "£" n:max=>some (AV.v (Value.int IntKind.i64 n))
local notation:max "¡" => some (AV.v (Value.bool true))
local notation:max "¿" => some (AV.v (Value.bool false))
local notation:max "°" n:max=>(Operand.tmp n)
local notation:max "¢" => env.P
noncomputable def nM:Code:=(Try.f80.body).getD .skip
def rW:Nat→Option (List Nat):=fun i=>none
def so:Nat→Bool:=fun i=>false
def cQ(g:Nat→AV)(x0:AV)(H:Heap)(Q:AV→Heap→Prop):Prop :=
 doW (nRes H §H 1 (qBox ¢ §H 1 49 ~x0)) fun v1 H1 =>
 doQ (aa ¢ 49 ~v1 0) fun v2 =>
 doQ (av ¢ ¥H1 5 ~v2) fun v3 =>
 doQ (qBin ¢ .eql 5 °4 (.const (.int .u8 0)) ~v3 (some (a8 0))) fun v4 =>
 gQ v4 false (aa ¢ 49 ~v1 0) fun v5 =>
 gQ v4 false (av ¢ ¥H1 5 ~v5) fun v6 =>
 gQ v4 false (qBin ¢ .geq 5 °8 (.const (.int .u8 4)) ~v6 (some (a8 4))) fun v7 =>
 doQ (aW ~v4 ¡ ~v7) fun v8 =>
 gQ v8 false (aa ¢ 49 ~v1 1) fun v9 =>
 gQ v8 false (av ¢ ¥H1 26 ~v9) fun v10 =>
 gW v8 false H1 (©false H1 14 113 [v10]) fun v11 H2 =>
 gQ v8 false (qBin ¢ .neq 35 °14 ¤0 ~v11 £0) fun v12 =>
 doQ (aW ~v8 ¡ ~v12) fun v13 =>
 gQ v13 false (aa ¢ 49 ~v1 2) fun v14 =>
 gQ v13 false (av ¢ ¥H2 3 ~v14) fun v15 =>
 gQ v13 false (qBin ¢ .lss 3 °19 ¤1 ~v15 £1) fun v16 =>
 doQ (aW ~v13 ¡ ~v16) fun v17 =>
 gQ v17 false (aa ¢ 49 ~v1 2) fun v18 =>
 gQ v17 false (av ¢ ¥H2 3 ~v18) fun v19 =>
 gQ v17 false (qBin ¢ .geq 3 °24 ¤16777216 ~v19 £16777216) fun v20 =>
 doQ (aW ~v17 ¡ ~v20) fun v21 =>
 gQ v21 false (aa ¢ 49 ~v1 3) fun v22 =>
 gQ v21 false (av ¢ ¥H2 30 ~v22) fun v23 =>
 gW v21 false H2 (©false H2 30 78 [v23]) fun v24 H3 =>
 gQ v21 false (qBin ¢ .neq 35 °30 ¤0 ~v24 £0) fun v25 =>
 doQ (aW ~v21 ¡ ~v25) fun v26 =>
 gW v26 false H3 (©false H3 34 117 []) fun v27 H4 =>
 gQ v26 false (aa ¢ 49 ~v1 0) fun v28 =>
 gQ v26 false (av ¢ ¥H4 5 ~v28) fun v29 =>
 gQ v26 false (kV ¢ 164 ~v27 ~v29) fun v30 =>
 gQ v26 false (lK ¢ 163 ~v30 0) fun v31 =>
 gQ v26 false (av ¢ ¥H4 49 ~v1) fun v32 =>
 gW v26 false H4 (cY env true (limf env) (limt env 0) H4 §H4 40 ~v31 [v32]) fun v33 H5 =>
 gQ v26 false (qUn ¢ .not ~v33) fun v34 =>
 doQ (aW ~v26 ¡ ~v34) fun v35 =>
 br ~v35 (
 Q (.v (.int .i64 8)) H5) (
 Q (.v (.int .i64 0)) H5)
theorem qS(x0:AV)(H:Heap)(Q:AV→Heap→Prop)(h : ∀g,cQ g x0 H Q):GoL env Try.f80 0 [.code nM] [(0,x0)] H Q:=⟨fun g=>bQ (live:=rW) (cut:=so) (n:=500) (Eq.mp (by kernel_rfl) (h g))⟩
noncomputable def mb:Code:=(Try.f140.body).getD .skip
def pn:Nat→Option (List Nat):=fun i=>none
def pC:Nat→Bool:=fun i=>false
def jC(g:Nat→AV)(x0:AV)(H:Heap)(Q:AV→Heap→Prop):Prop :=
 doW (nRes H §H 1 (qBox ¢ §H 1 49 ~x0)) fun v1 H1 =>
 doQ (aa ¢ 49 ~v1 4) fun v2 =>
 doQ (av ¢ ¥H1 28 ~v2) fun v3 =>
 doQ (bE ¢ 28 (some [])) fun v4 =>
 doQ (qBin ¢ .eql 28 °4 °5 ~v3 ~v4) fun v5 =>
 gQ v5 true (aa ¢ 49 ~v1 6) fun v6 =>
 gQ v5 true (av ¢ ¥H1 31 ~v6) fun v7 =>
 gQ v5 true (aX ¢ false ¥H1 §H1 10 .len #[31] [v7]) fun v8 =>
 gQ v5 true (qBin ¢ .eql 3 °10 ¤0 ~v8 £0) fun v9 =>
 doQ (aW ~v5 ~v9 ¿) fun v10 =>
 Q v10 H1
theorem oU(x0:AV)(H:Heap)(Q:AV→Heap→Prop)(h : ∀g,jC g x0 H Q):GoL env Try.f140 0 [.code mb] [(0,x0)] H Q:=⟨fun g=>bQ (live:=pn) (cut:=pC) (n:=500) (Eq.mp (by kernel_rfl) (h g))⟩
noncomputable def ma:Code:=(Try.f141.body).getD .skip
def pk:Nat→Option (List Nat):=fun i=>none
def pB:Nat→Bool:=fun i=>false
def me(g:Nat→AV)(x0:AV)(H:Heap)(Q:AV→Heap→Prop):Prop :=
 doW (nRes H §H 1 (qBox ¢ §H 1 49 ~x0)) fun v1 H1 =>
 doQ (aa ¢ 49 ~v1 5) fun v2 =>
 doQ (av ¢ ¥H1 24 ~v2) fun v3 =>
 doW (©false H1 5 142 []) fun v4 H2 =>
 doQ (qBin ¢ .eql 24 °4 °5 ~v3 ~v4) fun v5 =>
 Q v5 H2
theorem oT(x0:AV)(H:Heap)(Q:AV→Heap→Prop)(h : ∀g,me g x0 H Q):GoL env Try.f141 0 [.code ma] [(0,x0)] H Q:=⟨fun g=>bQ (live:=pk) (cut:=pB) (n:=500) (Eq.mp (by kernel_rfl) (h g))⟩
noncomputable def kY:Code:=(Try.f142.body).getD .skip
def nY:Nat→Option (List Nat):=fun i=>none
def n8:Nat→Bool:=fun i=>false
def k5(g:Nat→AV)(H:Heap)(Q:AV→Heap→Prop):Prop :=
 doW (nRes H §H 0 (ba ¢ §H 0 24)) fun v1 H1 =>
 doQ (bE ¢ 24 (some [])) fun v2 =>
 doW (aH ¢ H1 24 ~v1 ~v2) fun v3 H2 =>
 doQ (aJ ¢ H2 v1 24) fun v4 =>
 Q v4 H2
theorem nT(H:Heap)(Q:AV→Heap→Prop)(h : ∀g,k5 g  H Q):GoL env Try.f142 0 [.code kY] [] H Q:=⟨fun g=>bQ (live:=nY) (cut:=n8) (n:=500) (Eq.mp (by kernel_rfl) (h g))⟩
noncomputable def l9:Code:=(Try.f143.body).getD .skip
def pj:Nat→Option (List Nat):=fun i=>none
def pA:Nat→Bool:=fun i=>false
def cw(g:Nat→AV)(x0 x1:AV)(H:Heap)(Q:AV→Heap→Prop):Prop :=
 doW (nRes H §H 2 (qBox ¢ §H 2 49 ~x0)) fun v1 H1 =>
 doQ (aa ¢ 49 ~v1 4) fun v2 =>
 doQ (av ¢ ¥H1 28 ~v2) fun v3 =>
 doQ (bE ¢ 28 (some [])) fun v4 =>
 doQ (qBin ¢ .eql 28 °6 °7 ~v3 ~v4) fun v5 =>
 gQ v5 false (aa ¢ 49 ~v1 4) fun v6 =>
 gQ v5 false (av ¢ ¥H1 28 ~v6) fun v7 =>
 gW v5 false H1 (©true H1 12 77 [v7]) fun v8 H2 =>
 gQ v5 false (qBin ¢ .eql 35 °12 ¤0 ~v8 £0) fun v9 =>
 doQ (aW ~v5 ¡ ~v9) fun v10 =>
 doQ (av ¢ ¥H2 130 ~x1) fun v11 =>
 doQ (av ¢ ¥H2 49 ~v1) fun v12 =>
 doW (cY env true (limf env) (limt env 0) H2 §H2 17 ~v11 [v12]) fun v13 H3 =>
 gQ v13 true (qVal ~v10) fun v14 =>
 doQ (aW ~v13 ~v14 ¿) fun v15 =>
 gQ v15 true (aa ¢ 49 ~v1 3) fun v16 =>
 gQ v15 true (aa ¢ 30 ~v16 0) fun v17 =>
 gQ v15 true (aa ¢ 28 ~v17 0) fun v18 =>
 gQ v15 true (av ¢ ¥H3 26 ~v18) fun v19 =>
 gQ v15 true (aa ¢ 49 ~v1 1) fun v20 =>
 gQ v15 true (av ¢ ¥H3 26 ~v20) fun v21 =>
 gQ v15 true (qBin ¢ .eql 26 °25 °27 ~v19 ~v21) fun v22 =>
 doQ (aW ~v15 ~v22 ¿) fun v23 =>
 gQ v23 true (aa ¢ 49 ~v1 6) fun v24 =>
 gQ v23 true (av ¢ ¥H3 31 ~v24) fun v25 =>
 gQ v23 true (aX ¢ false ¥H3 §H3 33 .len #[31] [v25]) fun v26 =>
 gQ v23 true (aa ¢ 49 ~v1 3) fun v27 =>
 gQ v23 true (aa ¢ 30 ~v27 1) fun v28 =>
 gQ v23 true (av ¢ ¥H3 3 ~v28) fun v29 =>
 gQ v23 true (qBin ¢ .eql 3 °33 °36 ~v26 ~v29) fun v30 =>
 doQ (aW ~v23 ~v30 ¿) fun v31 =>
 gQ v31 true (aa ¢ 49 ~v1 6) fun v32 =>
 gQ v31 true (av ¢ ¥H3 31 ~v32) fun v33 =>
 gW v31 true H3 (©true H3 42 79 [v33]) fun v34 H4 =>
 gQ v31 true (qBin ¢ .eql 35 °42 ¤0 ~v34 £0) fun v35 =>
 doQ (aW ~v31 ~v35 ¿) fun v36 =>
 Q v36 H4
theorem oS(x0 x1:AV)(H:Heap)(Q:AV→Heap→Prop)(h : ∀g,cw g x0 x1 H Q):GoL env Try.f143 0 [.code l9] [(0,x0),(1,x1)] H Q:=⟨fun g=>bQ (live:=pj) (cut:=pA) (n:=500) (Eq.mp (by kernel_rfl) (h g))⟩
noncomputable def l8:Code:=(Try.f145.body).getD .skip
def ph:Nat→Option (List Nat):=fun i=>none
def pz:Nat→Bool:=fun i=>false
def md(g:Nat→AV)(x0 x1 x2:AV)(H:Heap)(Q:AV→Heap→Prop):Prop :=
 doW (nRes H §H 3 (qBox ¢ §H 3 49 ~x0)) fun v1 H1 =>
 doQ (av ¢ ¥H1 130 ~x1) fun v2 =>
 doQ (av ¢ ¥H1 49 ~v1) fun v3 =>
 doW (cY env true (limf env) (limt env 0) H1 §H1 7 ~v2 [v3]) fun v4 H2 =>
 gQ v4 true (av ¢ ¥H2 130 ~x2) fun v5 =>
 gQ v4 true (av ¢ ¥H2 49 ~v1) fun v6 =>
 gW v4 true H2 (cY env true (limf env) (limt env 0) H2 §H2 11 ~v5 [v6]) fun v7 H3 =>
 doQ (aW ~v4 ~v7 ¿) fun v8 =>
 Q v8 H3
theorem oR(x0 x1 x2:AV)(H:Heap)(Q:AV→Heap→Prop)(h : ∀g,md g x0 x1 x2 H Q):GoL env Try.f145 0 [.code l8] [(0,x0),(1,x1),(2,x2)] H Q:=⟨fun g=>bQ (live:=ph) (cut:=pz) (n:=500) (Eq.mp (by kernel_rfl) (h g))⟩
noncomputable def l7:Code:=(Try.f147.body).getD .skip
def pg:Nat→Option (List Nat):=fun i=>none
def py:Nat→Bool:=fun i=>false
def mc(g:Nat→AV)(x0 x1:AV)(H:Heap)(Q:AV→Heap→Prop):Prop :=
 doW (nRes H §H 2 (qBox ¢ §H 2 49 ~x0)) fun v1 H1 =>
 doQ (av ¢ ¥H1 130 ~x1) fun v2 =>
 doQ (av ¢ ¥H1 49 ~v1) fun v3 =>
 doW (cY env true (limf env) (limt env 0) H1 §H1 6 ~v2 [v3]) fun v4 H2 =>
 gQ v4 true (aa ¢ 49 ~v1 5) fun v5 =>
 gQ v4 true (av ¢ ¥H2 24 ~v5) fun v6 =>
 gW v4 true H2 (©true H2 10 125 [v6]) fun v7 H3 =>
 gQ v4 true (qBin ¢ .eql 35 °10 ¤0 ~v7 £0) fun v8 =>
 doQ (aW ~v4 ~v8 ¿) fun v9 =>
 Q v9 H3
theorem oQ(x0 x1:AV)(H:Heap)(Q:AV→Heap→Prop)(h : ∀g,mc g x0 x1 H Q):GoL env Try.f147 0 [.code l7] [(0,x0),(1,x1)] H Q:=⟨fun g=>bQ (live:=pg) (cut:=py) (n:=500) (Eq.mp (by kernel_rfl) (h g))⟩
noncomputable def fv:Code:=(Try.f82.body).getD .skip
def jO:Nat→Option (List Nat):=fun i=>none
def jU:Nat→Bool:=fun i=>false
def aD(g:Nat→AV)(x0:AV)(H:Heap)(Q:AV→Heap→Prop):Prop :=
 doW (nRes H §H 1 (qBox ¢ §H 1 49 ~x0)) fun v1 H1 =>
 doQ (aa ¢ 49 ~v1 1) fun v2 =>
 doQ (av ¢ ¥H1 26 ~v2) fun v3 =>
 doW (©true H1 6 118 [v3]) fun v4 H2 =>
 doQ (qUn ¢ .not ~v4) fun v5 =>
 gQ v5 false (aa ¢ 49 ~v1 2) fun v6 =>
 gQ v5 false (av ¢ ¥H2 3 ~v6) fun v7 =>
 gQ v5 false (qBin ¢ .lss 3 °10 ¤1 ~v7 £1) fun v8 =>
 doQ (aW ~v5 ¡ ~v8) fun v9 =>
 gQ v9 false (aa ¢ 49 ~v1 2) fun v10 =>
 gQ v9 false (av ¢ ¥H2 3 ~v10) fun v11 =>
 gQ v9 false (qBin ¢ .geq 3 °15 ¤16777216 ~v11 £16777216) fun v12 =>
 doQ (aW ~v9 ¡ ~v12) fun v13 =>
 gQ v13 false (aa ¢ 49 ~v1 3) fun v14 =>
 gQ v13 false (av ¢ ¥H2 30 ~v14) fun v15 =>
 gW v13 false H2 (©true H2 21 119 [v15]) fun v16 H3 =>
 gQ v13 false (qUn ¢ .not ~v16) fun v17 =>
 doQ (aW ~v13 ¡ ~v17) fun v18 =>
 br ~v18 (
 Q (.v (.bool false)) H3) (
 doQ (aa ¢ 49 ~v1 5) fun v19 =>
 doQ (av ¢ ¥H3 24 ~v19) fun v20 =>
 doQ (bE ¢ 24 (some [])) fun v21 =>
 doQ (qBin ¢ .eql 24 °25 °26 ~v20 ~v21) fun v22 =>
 doQ (aa ¢ 49 ~v1 0) fun v23 =>
 doQ (av ¢ ¥H3 5 ~v23) fun v24 =>
 doQ (qBin ¢ .eql 5 °29 (.const (.int .u8 1)) ~v24 (some (a8 1))) fun v25 =>
 br ~v25 (
 gQ v22 true (aa ¢ 49 ~v1 4) fun v26 =>
 gQ v22 true (av ¢ ¥H3 28 ~v26) fun v27 =>
 gW v22 true H3 (©true H3 35 120 [v27]) fun v28 H4 =>
 gQ v22 true (qVal ~v28) fun v29 =>
 gQ v29 false (aa ¢ 49 ~v1 4) fun v30 =>
 gQ v29 false (av ¢ ¥H4 28 ~v30) fun v31 =>
 gW v29 false H4 (©true H4 39 121 [v31]) fun v32 H5 =>
 gQ v22 true (aW ~v29 ¡ ~v32) fun v33 =>
 doQ (aW ~v22 ~v33 ¿) fun v34 =>
 gQ v34 true (aa ¢ 49 ~v1 3) fun v35 =>
 gQ v34 true (aa ¢ 30 ~v35 0) fun v36 =>
 gQ v34 true (aa ¢ 28 ~v36 0) fun v37 =>
 gQ v34 true (av ¢ ¥H5 26 ~v37) fun v38 =>
 gQ v34 true (aa ¢ 49 ~v1 1) fun v39 =>
 gQ v34 true (av ¢ ¥H5 26 ~v39) fun v40 =>
 gQ v34 true (qBin ¢ .eql 26 °46 °48 ~v38 ~v40) fun v41 =>
 doQ (aW ~v34 ~v41 ¿) fun v42 =>
 gQ v42 true (aa ¢ 49 ~v1 6) fun v43 =>
 gQ v42 true (av ¢ ¥H5 31 ~v43) fun v44 =>
 gQ v42 true (aX ¢ false ¥H5 §H5 54 .len #[31] [v44]) fun v45 =>
 gQ v42 true (aa ¢ 49 ~v1 3) fun v46 =>
 gQ v42 true (aa ¢ 30 ~v46 1) fun v47 =>
 gQ v42 true (av ¢ ¥H5 3 ~v47) fun v48 =>
 gQ v42 true (qBin ¢ .eql 3 °54 °57 ~v45 ~v48) fun v49 =>
 doQ (aW ~v42 ~v49 ¿) fun v50 =>
 gQ v50 true (aa ¢ 49 ~v1 6) fun v51 =>
 gQ v50 true (av ¢ ¥H5 31 ~v51) fun v52 =>
 gW v50 true H5 (©true H5 63 122 [v52]) fun v53 H6 =>
 gQ v50 true (qBin ¢ .eql 3 °63 ¤0 ~v53 £0) fun v54 =>
 doQ (aW ~v50 ~v54 ¿) fun v55 =>
 Q v55 H6) (
 doQ (aa ¢ 49 ~v1 4) fun v26 =>
 doQ (av ¢ ¥H3 28 ~v26) fun v27 =>
 doW (©true H3 68 120 [v27]) fun v28 H4 =>
 doQ (qUn ¢ .not ~v28) fun v29 =>
 gQ v29 false (aa ¢ 49 ~v1 6) fun v30 =>
 gQ v29 false (av ¢ ¥H4 31 ~v30) fun v31 =>
 gQ v29 false (aX ¢ false ¥H4 §H4 73 .len #[31] [v31]) fun v32 =>
 gQ v29 false (qBin ¢ .gtr 3 °73 ¤0 ~v32 £0) fun v33 =>
 doQ (aW ~v29 ¡ ~v33) fun v34 =>
 br ~v34 (
 Q (.v (.bool false)) H4) (
 doQ (aa ¢ 49 ~v1 0) fun v35 =>
 doQ (av ¢ ¥H4 5 ~v35) fun v36 =>
 doQ (qBin ¢ .eql 5 °77 (.const (.int .u8 2)) ~v36 (some (a8 2))) fun v37 =>
 gQ v37 true (qVal ~v22) fun v38 =>
 doQ (aW ~v37 ~v38 ¿) fun v39 =>
 gQ v39 false (aa ¢ 49 ~v1 0) fun v40 =>
 gQ v39 false (av ¢ ¥H4 5 ~v40) fun v41 =>
 gQ v39 false (qBin ¢ .eql 5 °84 (.const (.int .u8 3)) ~v41 (some (a8 3))) fun v42 =>
 gQ v39 false (qVal ~v42) fun v43 =>
 gQ v43 true (aa ¢ 49 ~v1 5) fun v44 =>
 gQ v43 true (av ¢ ¥H4 24 ~v44) fun v45 =>
 gW v43 true H4 (©true H4 89 123 [v45]) fun v46 H5 =>
 gQ v39 false (aW ~v43 ~v46 ¿) fun v47 =>
 doQ (aW ~v39 ¡ ~v47) fun v48 =>
 Q v48 H5)))
theorem jI(x0:AV)(H:Heap)(Q:AV→Heap→Prop)(h : ∀g,aD g x0 H Q):GoL env Try.f82 0 [.code fv] [(0,x0)] H Q:=⟨fun g=>bQ (live:=jO) (cut:=jU) (n:=500) (Eq.mp (by kernel_rfl) (h g))⟩
noncomputable def dE:Code:=(Try.f118.body).getD .skip
def gx:Nat→Option (List Nat):=fun i=>none
def gz:Nat→Bool:=fun i=>false
def dH(g:Nat→AV)(x0:AV)(H:Heap)(Q:AV→Heap→Prop):Prop :=
 doW (nRes H §H 1 (qBox ¢ §H 1 26 ~x0)) fun v1 H1 =>
 doQ (aa ¢ 26 ~v1 0) fun v2 =>
 doQ (av ¢ ¥H1 24 ~v2) fun v3 =>
 doW (©true H1 5 123 [v3]) fun v4 H2 =>
 gQ v4 true (aa ¢ 26 ~v1 1) fun v5 =>
 gQ v4 true (av ¢ ¥H2 5 ~v5) fun v6 =>
 gQ v4 true (qBin ¢ .lss 5 °8 (.const (.int .u8 8)) ~v6 (some (a8 8))) fun v7 =>
 doQ (aW ~v4 ~v7 ¿) fun v8 =>
 Q v8 H2
theorem gn(x0:AV)(H:Heap)(Q:AV→Heap→Prop)(h : ∀g,dH g x0 H Q):GoL env Try.f118 0 [.code dE] [(0,x0)] H Q:=⟨fun g=>bQ (live:=gx) (cut:=gz) (n:=500) (Eq.mp (by kernel_rfl) (h g))⟩
noncomputable def dW:Code:=(Try.f119.body).getD .skip
def gZ:Nat→Option (List Nat):=fun i=>none
def hC:Nat→Bool:=fun i=>false
def bJ(g:Nat→AV)(x0:AV)(H:Heap)(Q:AV→Heap→Prop):Prop :=
 doW (nRes H §H 1 (qBox ¢ §H 1 30 ~x0)) fun v1 H1 =>
 doQ (aa ¢ 30 ~v1 0) fun v2 =>
 doQ (av ¢ ¥H1 28 ~v2) fun v3 =>
 doW (©true H1 5 121 [v3]) fun v4 H2 =>
 gQ v4 true (aa ¢ 30 ~v1 1) fun v5 =>
 gQ v4 true (av ¢ ¥H2 3 ~v5) fun v6 =>
 gQ v4 true (qBin ¢ .geq 3 °8 ¤1 ~v6 £1) fun v7 =>
 doQ (aW ~v4 ~v7 ¿) fun v8 =>
 gQ v8 true (aa ¢ 30 ~v1 1) fun v9 =>
 gQ v8 true (av ¢ ¥H2 3 ~v9) fun v10 =>
 gQ v8 true (qBin ¢ .leq 3 °13 ¤64 ~v10 £64) fun v11 =>
 doQ (aW ~v8 ~v11 ¿) fun v12 =>
 gQ v12 true (aa ¢ 30 ~v1 0) fun v13 =>
 gQ v12 true (aa ¢ 28 ~v13 1) fun v14 =>
 gQ v12 true (av ¢ ¥H2 3 ~v14) fun v15 =>
 gQ v12 true (aa ¢ 30 ~v1 1) fun v16 =>
 gQ v12 true (av ¢ ¥H2 3 ~v16) fun v17 =>
 gQ v12 true (qBin ¢ .sub 3 ¤1099511627777 °21 £1099511627777 ~v17) fun v18 =>
 gQ v12 true (qBin ¢ .leq 3 °19 °22 ~v15 ~v18) fun v19 =>
 doQ (aW ~v12 ~v19 ¿) fun v20 =>
 Q v20 H2
theorem gY(x0:AV)(H:Heap)(Q:AV→Heap→Prop)(h : ∀g,bJ g x0 H Q):GoL env Try.f119 0 [.code dW] [(0,x0)] H Q:=⟨fun g=>bQ (live:=gZ) (cut:=hC) (n:=500) (Eq.mp (by kernel_rfl) (h g))⟩
noncomputable def fc:Code:=(Try.f120.body).getD .skip
def jj:Nat→Option (List Nat):=fun i=>none
def jw:Nat→Bool:=fun i=>false
def fj(g:Nat→AV)(x0:AV)(H:Heap)(Q:AV→Heap→Prop):Prop :=
 doW (nRes H §H 1 (qBox ¢ §H 1 28 ~x0)) fun v1 H1 =>
 doQ (av ¢ ¥H1 28 ~v1) fun v2 =>
 doQ (bE ¢ 28 (some [])) fun v3 =>
 doQ (qBin ¢ .eql 28 °3 °4 ~v2 ~v3) fun v4 =>
 Q v4 H1
theorem iW(x0:AV)(H:Heap)(Q:AV→Heap→Prop)(h : ∀g,fj g x0 H Q):GoL env Try.f120 0 [.code fc] [(0,x0)] H Q:=⟨fun g=>bQ (live:=jj) (cut:=jw) (n:=500) (Eq.mp (by kernel_rfl) (h g))⟩
noncomputable def fw:Code:=(Try.f121.body).getD .skip
def jP:Nat→Option (List Nat):=fun i=>none
def jV:Nat→Bool:=fun i=>false
def fA(g:Nat→AV)(x0:AV)(H:Heap)(Q:AV→Heap→Prop):Prop :=
 doW (nRes H §H 1 (qBox ¢ §H 1 28 ~x0)) fun v1 H1 =>
 doQ (aa ¢ 28 ~v1 0) fun v2 =>
 doQ (av ¢ ¥H1 26 ~v2) fun v3 =>
 doW (©true H1 5 118 [v3]) fun v4 H2 =>
 gQ v4 true (aa ¢ 28 ~v1 1) fun v5 =>
 gQ v4 true (av ¢ ¥H2 3 ~v5) fun v6 =>
 gQ v4 true (qBin ¢ .geq 3 °8 ¤1 ~v6 £1) fun v7 =>
 doQ (aW ~v4 ~v7 ¿) fun v8 =>
 gQ v8 true (aa ¢ 28 ~v1 1) fun v9 =>
 gQ v8 true (av ¢ ¥H2 3 ~v9) fun v10 =>
 gQ v8 true (qBin ¢ .leq 3 °13 ¤1099511627776 ~v10 £1099511627776) fun v11 =>
 doQ (aW ~v8 ~v11 ¿) fun v12 =>
 Q v12 H2
theorem jJ(x0:AV)(H:Heap)(Q:AV→Heap→Prop)(h : ∀g,fA g x0 H Q):GoL env Try.f121 0 [.code fw] [(0,x0)] H Q:=⟨fun g=>bQ (live:=jP) (cut:=jV) (n:=500) (Eq.mp (by kernel_rfl) (h g))⟩
noncomputable def cZ:Code:=(Try.f122.body).getD .skip
noncomputable def bV:List Item:=(dp 4 400 [.code cZ]).getD []
def eI:Nat→Option (List Nat):=fun i=>cond (Nat.beq i 4) (some [3,0]) (none)
def eL:Nat→Bool:=fun i=>false
def c9(g:Nat→AV)(x0:AV)(H:Heap)(Q:AV→Heap→Prop):Prop :=
 doQ (aX ¢ false ¥H §H 5 .len #[31] [x0]) fun v1 =>
 doQ (qBin ¢ .gtr 3 °5 ¤64 ~v1 £64) fun v2 =>
 br ~v2 (
 Q (.v (.int .i64 4)) H) (
  GoL env Try.f122 0 bV [(3,(.v (.int .i64 0))),(0,x0)] H Q)
theorem iD(x0:AV)(H:Heap)(Q:AV→Heap→Prop)(h : ∀g,c9 g x0 H Q):GoL env Try.f122 0 [.code cZ] [(0,x0)] H Q:=⟨fun g=>bQ (live:=eI) (cut:=eL) (n:=500) (Eq.mp (by kernel_rfl) (h g))⟩
def bK(g:Nat→AV)(x3 x0:AV)(H:Heap)(Q:AV→Heap→Prop):Prop :=
 doQ (aX ¢ false ¥H §H 9 .len #[31] [x0]) fun v1 =>
 doQ (qBin ¢ .lss 3 °7 °9 ~x3 ~v1) fun v2 =>
 br ~v2 (
 doQ (aQ ¢ ¥H 31 ~x0 ~x3) fun v3 =>
 doQ (av ¢ ¥H 21 ~v3) fun v4 =>
 doQ (qBin ¢ .neq 21 °16 (.const (.int .i32 (-1))) ~v4 (some (.v (.int .i32 (-1))))) fun v5 =>
 gQ v5 true (qVal ~x0) fun v6 =>
 gQ v5 true (qVal ~x3) fun v7 =>
 gQ v5 true (aQ ¢ ¥H 31 ~v6 ~v7) fun v8 =>
 gQ v5 true (av ¢ ¥H 21 ~v8) fun v9 =>
 gQ v5 true (dk ¢ ¥H §H 23 21 3 ~v9) fun v10 =>
 gW v5 true H (©true H 24 149 [v10]) fun v11 H1 =>
 gQ v5 true (qUn ¢ .not ~v11) fun v12 =>
 doQ (aW ~v5 ~v12 ¿) fun v13 =>
 br ~v13 (
 Q (.v (.int .i64 8)) H1) (
 doQ (qBin ¢ .add 3 °11 ¤1 ~x3 £1) fun v14 =>
  GoL env Try.f122 0 bV [(3,v14),(0,x0)] H1 Q)) (
 Q (.v (.int .i64 0)) H)
theorem dT(x3 x0:AV)(H:Heap)(Q:AV→Heap→Prop)(h : ∀g,bK g x3 x0 H Q):GoL env Try.f122 0 bV [(3,x3),(0,x0)] H Q:=kN fun g=>bQ (live:=eI) (cut:=eL) (n:=500) (Eq.mp (by kernel_rfl) (h g))
noncomputable def fx:Code:=(Try.f123.body).getD .skip
def jQ:Nat→Option (List Nat):=fun i=>none
def jW:Nat→Bool:=fun i=>false
def fB(g:Nat→AV)(x0:AV)(H:Heap)(Q:AV→Heap→Prop):Prop :=
 doW (nRes H §H 1 (qBox ¢ §H 1 24 ~x0)) fun v1 H1 =>
 doQ (aa ¢ 24 ~v1 0) fun v2 =>
 doQ (av ¢ ¥H1 5 ~v2) fun v3 =>
 doQ (qBin ¢ .leq 5 °4 (.const (.int .u8 15)) ~v3 (some (a8 15))) fun v4 =>
 Q v4 H1
theorem jK(x0:AV)(H:Heap)(Q:AV→Heap→Prop)(h : ∀g,fB g x0 H Q):GoL env Try.f123 0 [.code fx] [(0,x0)] H Q:=⟨fun g=>bQ (live:=jQ) (cut:=jW) (n:=500) (Eq.mp (by kernel_rfl) (h g))⟩
noncomputable def fX:Code:=(Try.f149.body).getD .skip
def kf:Nat→Option (List Nat):=fun i=>none
def kr:Nat→Bool:=fun i=>false
def ga(g:Nat→AV)(x0:AV)(H:Heap)(Q:AV→Heap→Prop):Prop :=
 doQ (qBin ¢ .geq 3 °3 ¤0 ~x0 £0) fun v1 =>
 gQ v1 true (qVal ~x0) fun v2 =>
 gQ v1 true (qBin ¢ .leq 3 °6 ¤1114111 ~v2 £1114111) fun v3 =>
 doQ (aW ~v1 ~v3 ¿) fun v4 =>
 gQ v4 true (qVal ~x0) fun v5 =>
 gQ v4 true (qBin ¢ .lss 3 °10 ¤55296 ~v5 £55296) fun v6 =>
 gQ v4 true (qVal ~v6) fun v7 =>
 gQ v7 false (qVal ~x0) fun v8 =>
 gQ v7 false (qBin ¢ .gtr 3 °13 ¤57343 ~v8 £57343) fun v9 =>
 gQ v4 true (aW ~v7 ¡ ~v9) fun v10 =>
 doQ (aW ~v4 ~v10 ¿) fun v11 =>
 Q v11 H
theorem j1(x0:AV)(H:Heap)(Q:AV→Heap→Prop)(h : ∀g,ga g x0 H Q):GoL env Try.f149 0 [.code fX] [(0,x0)] H Q:=⟨fun g=>bQ (live:=kf) (cut:=kr) (n:=500) (Eq.mp (by kernel_rfl) (h g))⟩
noncomputable def fe:Code:=(Try.f25.body).getD .skip
def jk:Nat→Option (List Nat):=fun i=>none
def jx:Nat→Bool:=fun i=>false
def dw(g:Nat→AV)(x0:AV)(H:Heap)(Q:AV→Heap→Prop):Prop :=
 doW (nRes H §H 1 (qBox ¢ §H 1 49 ~x0)) fun v1 H1 =>
 doW (nRes H1 §H1 2 (ba ¢ §H1 2 49)) fun v2 H2 =>
 doQ (aa ¢ 49 ~v1 6) fun v3 =>
 doQ (av ¢ ¥H2 31 ~v3) fun v4 =>
 doW (fy ¢ true H2 §H2 5 (some 31) (some 31) (.v (.slice none 0 0)) v4) fun v5 H3 =>
 doQ (aa ¢ 49 ~v1 6) fun v6 =>
 doW (aH ¢ H3 31 ~v6 ~v5) fun v7 H4 =>
 doQ (av ¢ ¥H4 49 ~v1) fun v8 =>
 doW (aH ¢ H4 49 ~v2 ~v8) fun v9 H5 =>
 doQ (aJ ¢ H5 v2 49) fun v10 =>
 Q v10 H5
theorem iX(x0:AV)(H:Heap)(Q:AV→Heap→Prop)(h : ∀g,dw g x0 H Q):GoL env Try.f25 0 [.code fe] [(0,x0)] H Q:=⟨fun g=>bQ (live:=jk) (cut:=jx) (n:=500) (Eq.mp (by kernel_rfl) (h g))⟩
noncomputable def ff:Code:=(Try.f34.body).getD .skip
def jl:Nat→Option (List Nat):=fun i=>none
def jy:Nat→Bool:=fun i=>false
def fk(g:Nat→AV)(x0 x1:AV)(H:Heap)(Q:AV→Heap→Prop):Prop :=
 doW (nRes H §H 2 (qBox ¢ §H 2 49 ~x0)) fun v1 H1 =>
 doW (nRes H1 §H1 3 (qBox ¢ §H1 3 49 ~x1)) fun v2 H2 =>
 doQ (aa ¢ 49 ~v1 0) fun v3 =>
 doQ (av ¢ ¥H2 5 ~v3) fun v4 =>
 doQ (aa ¢ 49 ~v2 0) fun v5 =>
 doQ (av ¢ ¥H2 5 ~v5) fun v6 =>
 doQ (qBin ¢ .eql 5 °6 °8 ~v4 ~v6) fun v7 =>
 gQ v7 true (aa ¢ 49 ~v1 1) fun v8 =>
 gQ v7 true (av ¢ ¥H2 26 ~v8) fun v9 =>
 gQ v7 true (aa ¢ 49 ~v2 1) fun v10 =>
 gQ v7 true (av ¢ ¥H2 26 ~v10) fun v11 =>
 gQ v7 true (qBin ¢ .eql 26 °12 °14 ~v9 ~v11) fun v12 =>
 doQ (aW ~v7 ~v12 ¿) fun v13 =>
 gQ v13 true (aa ¢ 49 ~v1 2) fun v14 =>
 gQ v13 true (av ¢ ¥H2 3 ~v14) fun v15 =>
 gQ v13 true (aa ¢ 49 ~v2 2) fun v16 =>
 gQ v13 true (av ¢ ¥H2 3 ~v16) fun v17 =>
 gQ v13 true (qBin ¢ .eql 3 °19 °21 ~v15 ~v17) fun v18 =>
 doQ (aW ~v13 ~v18 ¿) fun v19 =>
 gQ v19 true (aa ¢ 49 ~v1 3) fun v20 =>
 gQ v19 true (av ¢ ¥H2 30 ~v20) fun v21 =>
 gQ v19 true (aa ¢ 49 ~v2 3) fun v22 =>
 gQ v19 true (av ¢ ¥H2 30 ~v22) fun v23 =>
 gQ v19 true (qBin ¢ .eql 30 °26 °28 ~v21 ~v23) fun v24 =>
 doQ (aW ~v19 ~v24 ¿) fun v25 =>
 gQ v25 true (aa ¢ 49 ~v1 4) fun v26 =>
 gQ v25 true (av ¢ ¥H2 28 ~v26) fun v27 =>
 gQ v25 true (aa ¢ 49 ~v2 4) fun v28 =>
 gQ v25 true (av ¢ ¥H2 28 ~v28) fun v29 =>
 gQ v25 true (qBin ¢ .eql 28 °33 °35 ~v27 ~v29) fun v30 =>
 doQ (aW ~v25 ~v30 ¿) fun v31 =>
 gQ v31 true (aa ¢ 49 ~v1 5) fun v32 =>
 gQ v31 true (av ¢ ¥H2 24 ~v32) fun v33 =>
 gQ v31 true (aa ¢ 49 ~v2 5) fun v34 =>
 gQ v31 true (av ¢ ¥H2 24 ~v34) fun v35 =>
 gQ v31 true (qBin ¢ .eql 24 °40 °42 ~v33 ~v35) fun v36 =>
 doQ (aW ~v31 ~v36 ¿) fun v37 =>
 gQ v37 true (aa ¢ 49 ~v1 6) fun v38 =>
 gQ v37 true (av ¢ ¥H2 31 ~v38) fun v39 =>
 gQ v37 true (aa ¢ 49 ~v2 6) fun v40 =>
 gQ v37 true (av ¢ ¥H2 31 ~v40) fun v41 =>
 gW v37 true H2 (©true H2 50 87 [v39,v41]) fun v42 H3 =>
 doQ (aW ~v37 ~v42 ¿) fun v43 =>
 Q v43 H3
theorem iY(x0 x1:AV)(H:Heap)(Q:AV→Heap→Prop)(h : ∀g,fk g x0 x1 H Q):GoL env Try.f34 0 [.code ff] [(0,x0),(1,x1)] H Q:=⟨fun g=>bQ (live:=jl) (cut:=jy) (n:=500) (Eq.mp (by kernel_rfl) (h g))⟩
noncomputable def gR:Code:=(Try.f23.body).getD .skip
def vR:Nat→Option (List Nat):=fun i=>none
def wA:Nat→Bool:=fun i=>false
def fg(g:Nat→AV)(x0:AV)(H:Heap)(Q:AV→Heap→Prop):Prop :=
 doW (nRes H §H 1 (qBox ¢ §H 1 49 ~x0)) fun v1 H1 =>
 doW (nRes H1 §H1 2 (ba ¢ §H1 2 33)) fun v2 H2 =>
 doQ (av ¢ ¥H2 49 ~v1) fun v3 =>
 doW (©true H2 7 80 [v3]) fun v4 H3 =>
 doQ (qBin ¢ .neq 35 °8 ¤0 ~v4 £0) fun v5 =>
 br ~v5 (
 doQ (bE ¢ 33 (some [])) fun v6 =>
 doW (aH ¢ H3 33 ~v2 ~v6) fun v7 H4 =>
 doQ (aJ ¢ H4 v2 33) fun v8 =>
 Q (.tup [v8,v4]) H4) (
 doQ (aa ¢ 49 ~v1 3) fun v6 =>
 doQ (av ¢ ¥H3 30 ~v6) fun v7 =>
 doQ (aa ¢ 49 ~v1 4) fun v8 =>
 doQ (av ¢ ¥H3 28 ~v8) fun v9 =>
 doQ (aa ¢ 49 ~v1 6) fun v10 =>
 doQ (av ¢ ¥H3 31 ~v10) fun v11 =>
 doW (©false H3 18 81 [v11]) fun v12 H4 =>
 doQ (bE ¢ 33 (some [(0,v7),(1,v9),(2,v12)])) fun v13 =>
 doW (nRes H4 §H4 5 (ba ¢ §H4 5 33)) fun v14 H5 =>
 doW (aH ¢ H5 33 ~v14 ~v13) fun v15 H6 =>
 doQ (aa ¢ 49 ~v1 0) fun v16 =>
 doQ (av ¢ ¥H6 5 ~v16) fun v17 =>
 doQ (qBin ¢ .neq 5 °21 (.const (.int .u8 1)) ~v17 (some (a8 1))) fun v18 =>
 gQ v18 false (av ¢ ¥H6 33 ~v14) fun v19 =>
 gW v18 false H6 (©true H6 25 19 [v19]) fun v20 H7 =>
 gQ v18 false (qBin ¢ .neq 35 °25 ¤0 ~v20 £0) fun v21 =>
 doQ (aW ~v18 ¡ ~v21) fun v22 =>
 br ~v22 (
 doQ (bE ¢ 33 (some [])) fun v23 =>
 doW (aH ¢ H7 33 ~v2 ~v23) fun v24 H8 =>
 doQ (aJ ¢ H8 v2 33) fun v25 =>
 Q (.tup [v25,(.v (.int .i64 2))]) H8) (
 doQ (av ¢ ¥H7 33 ~v14) fun v23 =>
 doW (aH ¢ H7 33 ~v2 ~v23) fun v24 H8 =>
 doQ (aJ ¢ H8 v2 33) fun v25 =>
 Q (.tup [v25,(.v (.int .i64 0))]) H8))
theorem iB(x0:AV)(H:Heap)(Q:AV→Heap→Prop)(h : ∀g,fg g x0 H Q):GoL env Try.f23 0 [.code gR] [(0,x0)] H Q:=⟨fun g=>bQ (live:=vR) (cut:=wA) (n:=500) (Eq.mp (by kernel_rfl) (h g))⟩
noncomputable def dq:Code:=(Try.f24.body).getD .skip
def jf:Nat→Option (List Nat):=fun i=>none
def jr:Nat→Bool:=fun i=>false
def cy(g:Nat→AV)(x0:AV)(H:Heap)(Q:AV→Heap→Prop):Prop :=
 doW (nRes H §H 1 (qBox ¢ §H 1 33 ~x0)) fun v1 H1 =>
 doW (nRes H1 §H1 2 (ba ¢ §H1 2 33)) fun v2 H2 =>
 doQ (aa ¢ 33 ~v1 2) fun v3 =>
 doQ (av ¢ ¥H2 31 ~v3) fun v4 =>
 doW (fy ¢ true H2 §H2 5 (some 31) (some 31) (.v (.slice none 0 0)) v4) fun v5 H3 =>
 doQ (aa ¢ 33 ~v1 2) fun v6 =>
 doW (aH ¢ H3 31 ~v6 ~v5) fun v7 H4 =>
 doQ (av ¢ ¥H4 33 ~v1) fun v8 =>
 doW (aH ¢ H4 33 ~v2 ~v8) fun v9 H5 =>
 doQ (aJ ¢ H5 v2 33) fun v10 =>
 Q v10 H5
theorem eU(x0:AV)(H:Heap)(Q:AV→Heap→Prop)(h : ∀g,cy g x0 H Q):GoL env Try.f24 0 [.code dq] [(0,x0)] H Q:=⟨fun g=>bQ (live:=jf) (cut:=jr) (n:=500) (Eq.mp (by kernel_rfl) (h g))⟩
noncomputable def cm:Code:=(Try.f26.body).getD .skip
def j9:Nat→Option (List Nat):=fun i=>none
def ko:Nat→Bool:=fun i=>false
def cq(g:Nat→AV)(x0:AV)(H:Heap)(Q:AV→Heap→Prop):Prop :=
 doW (nRes H §H 1 (qBox ¢ §H 1 49 ~x0)) fun v1 H1 =>
 doW (nRes H1 §H1 2 (ba ¢ §H1 2 33)) fun v2 H2 =>
 doQ (av ¢ ¥H2 49 ~v1) fun v3 =>
 doW (©true H2 6 82 [v3]) fun v4 H3 =>
 doQ (qUn ¢ .not ~v4) fun v5 =>
 br ~v5 (
 doQ (bE ¢ 33 (some [])) fun v6 =>
 doW (aH ¢ H3 33 ~v2 ~v6) fun v7 H4 =>
 doQ (aJ ¢ H4 v2 33) fun v8 =>
 Q (.tup [v8,(.v (.int .i64 8))]) H4) (
 doQ (aa ¢ 49 ~v1 3) fun v6 =>
 doQ (av ¢ ¥H3 30 ~v6) fun v7 =>
 doQ (aa ¢ 49 ~v1 4) fun v8 =>
 doQ (av ¢ ¥H3 28 ~v8) fun v9 =>
 doQ (aa ¢ 49 ~v1 6) fun v10 =>
 doQ (av ¢ ¥H3 31 ~v10) fun v11 =>
 doQ (bE ¢ 33 (some [(0,v7),(1,v9),(2,v11)])) fun v12 =>
 doW (nRes H3 §H3 4 (ba ¢ §H3 4 33)) fun v13 H4 =>
 doW (aH ¢ H4 33 ~v13 ~v12) fun v14 H5 =>
 doQ (aa ¢ 49 ~v1 0) fun v15 =>
 doQ (av ¢ ¥H5 5 ~v15) fun v16 =>
 doQ (qBin ¢ .neq 5 °17 (.const (.int .u8 1)) ~v16 (some (a8 1))) fun v17 =>
 gQ v17 false (av ¢ ¥H5 33 ~v13) fun v18 =>
 gW v17 false H5 (©true H5 21 83 [v18]) fun v19 H6 =>
 gQ v17 false (qUn ¢ .not ~v19) fun v20 =>
 doQ (aW ~v17 ¡ ~v20) fun v21 =>
 br ~v21 (
 doQ (bE ¢ 33 (some [])) fun v22 =>
 doW (aH ¢ H6 33 ~v2 ~v22) fun v23 H7 =>
 doQ (aJ ¢ H7 v2 33) fun v24 =>
 Q (.tup [v24,(.v (.int .i64 2))]) H7) (
 doQ (av ¢ ¥H6 33 ~v13) fun v22 =>
 doW (©true H6 26 24 [v22]) fun v23 H7 =>
 doW (aH ¢ H7 33 ~v2 ~v23) fun v24 H8 =>
 doQ (aJ ¢ H8 v2 33) fun v25 =>
 Q (.tup [v25,(.v (.int .i64 0))]) H8))
theorem cK(x0:AV)(H:Heap)(Q:AV→Heap→Prop)(h : ∀g,cq g x0 H Q):GoL env Try.f26 0 [.code cm] [(0,x0)] H Q:=⟨fun g=>bQ (live:=j9) (cut:=ko) (n:=500) (Eq.mp (by kernel_rfl) (h g))⟩
noncomputable def bY:Code:=(Try.f27.body).getD .skip
def jN:Nat→Option (List Nat):=fun i=>none
def jT:Nat→Bool:=fun i=>false
def bZ(g:Nat→AV)(x0 x1:AV)(H:Heap)(Q:AV→Heap→Prop):Prop :=
 doW (nRes H §H 2 (qBox ¢ §H 2 33 ~x0)) fun v1 H1 =>
 doW (nRes H1 §H1 4 (ba ¢ §H1 4 33)) fun v2 H2 =>
 doW (nRes H2 §H2 5 (ba ¢ §H2 5 33)) fun v3 H3 =>
 doQ (av ¢ ¥H3 33 ~v1) fun v4 =>
 doW (©true H3 8 83 [v4]) fun v5 H4 =>
 doQ (qUn ¢ .not ~v5) fun v6 =>
 br ~v6 (
 doQ (bE ¢ 33 (some [])) fun v7 =>
 doQ (bE ¢ 33 (some [])) fun v8 =>
 doW (aH ¢ H4 33 ~v2 ~v7) fun v9 H5 =>
 doW (aH ¢ H5 33 ~v3 ~v8) fun v10 H6 =>
 doQ (aJ ¢ H6 v2 33) fun v11 =>
 doQ (aJ ¢ H6 v3 33) fun v12 =>
 Q (.tup [v11,v12,(.v (.int .i64 8))]) H6) (
 doQ (qBin ¢ .lss 3 °12 ¤1 ~x1 £1) fun v7 =>
 gQ v7 false (qVal ~x1) fun v8 =>
 gQ v7 false (aa ¢ 33 ~v1 0) fun v9 =>
 gQ v7 false (aa ¢ 30 ~v9 1) fun v10 =>
 gQ v7 false (av ¢ ¥H4 3 ~v10) fun v11 =>
 gQ v7 false (qBin ¢ .geq 3 °15 °18 ~v8 ~v11) fun v12 =>
 doQ (aW ~v7 ¡ ~v12) fun v13 =>
 br ~v13 (
 doQ (bE ¢ 33 (some [])) fun v14 =>
 doQ (bE ¢ 33 (some [])) fun v15 =>
 doW (aH ¢ H4 33 ~v2 ~v14) fun v16 H5 =>
 doW (aH ¢ H5 33 ~v3 ~v15) fun v17 H6 =>
 doQ (aJ ¢ H6 v2 33) fun v18 =>
 doQ (aJ ¢ H6 v3 33) fun v19 =>
 Q (.tup [v18,v19,(.v (.int .i64 2))]) H6) (
 doQ (av ¢ ¥H4 33 ~v1) fun v14 =>
 doW (©false H4 25 84 [v14,(.v (.int .i64 0)),x1]) fun v15 H5 =>
 doQ (av ¢ ¥H5 33 ~v1) fun v16 =>
 doQ (aa ¢ 33 ~v1 0) fun v17 =>
 doQ (aa ¢ 30 ~v17 1) fun v18 =>
 doQ (av ¢ ¥H5 3 ~v18) fun v19 =>
 doQ (qBin ¢ .sub 3 °30 °31 ~v19 ~x1) fun v20 =>
 doW (©false H5 33 84 [v16,x1,v20]) fun v21 H6 =>
 doW (aH ¢ H6 33 ~v2 ~v15) fun v22 H7 =>
 doW (aH ¢ H7 33 ~v3 ~v21) fun v23 H8 =>
 doQ (aJ ¢ H8 v2 33) fun v24 =>
 doQ (aJ ¢ H8 v3 33) fun v25 =>
 Q (.tup [v24,v25,(.v (.int .i64 0))]) H8))
theorem cH(x0 x1:AV)(H:Heap)(Q:AV→Heap→Prop)(h : ∀g,bZ g x0 x1 H Q):GoL env Try.f27 0 [.code bY] [(0,x0),(1,x1)] H Q:=⟨fun g=>bQ (live:=jN) (cut:=jT) (n:=500) (Eq.mp (by kernel_rfl) (h g))⟩
noncomputable def bk:Code:=(Try.f28.body).getD .skip
def ji:Nat→Option (List Nat):=fun i=>none
def jv:Nat→Bool:=fun i=>false
def bu(g:Nat→AV)(x0 x1:AV)(H:Heap)(Q:AV→Heap→Prop):Prop :=
 doW (nRes H §H 2 (qBox ¢ §H 2 33 ~x0)) fun v1 H1 =>
 doW (nRes H1 §H1 3 (qBox ¢ §H1 3 33 ~x1)) fun v2 H2 =>
 doW (nRes H2 §H2 4 (ba ¢ §H2 4 33)) fun v3 H3 =>
 doQ (av ¢ ¥H3 33 ~v1) fun v4 =>
 doW (©true H3 8 83 [v4]) fun v5 H4 =>
 doQ (qUn ¢ .not ~v5) fun v6 =>
 gQ v6 false (av ¢ ¥H4 33 ~v2) fun v7 =>
 gW v6 false H4 (©true H4 12 83 [v7]) fun v8 H5 =>
 gQ v6 false (qUn ¢ .not ~v8) fun v9 =>
 doQ (aW ~v6 ¡ ~v9) fun v10 =>
 br ~v10 (
 doQ (bE ¢ 33 (some [])) fun v11 =>
 doW (aH ¢ H5 33 ~v3 ~v11) fun v12 H6 =>
 doQ (aJ ¢ H6 v3 33) fun v13 =>
 Q (.tup [v13,(.v (.int .i64 8))]) H6) (
 doQ (aa ¢ 33 ~v2 0) fun v11 =>
 doQ (aa ¢ 30 ~v11 0) fun v12 =>
 doQ (av ¢ ¥H5 28 ~v12) fun v13 =>
 doQ (av ¢ ¥H5 33 ~v1) fun v14 =>
 doQ (aa ¢ 33 ~v1 0) fun v15 =>
 doQ (aa ¢ 30 ~v15 1) fun v16 =>
 doQ (av ¢ ¥H5 3 ~v16) fun v17 =>
 doW (©false H5 23 85 [v14,v17]) fun v18 H6 =>
 doQ (qBin ¢ .neq 28 °18 °23 ~v13 ~v18) fun v19 =>
 gQ v19 false (aa ¢ 33 ~v2 1) fun v20 =>
 gQ v19 false (av ¢ ¥H6 28 ~v20) fun v21 =>
 gQ v19 false (av ¢ ¥H6 33 ~v1) fun v22 =>
 gQ v19 false (aa ¢ 33 ~v1 0) fun v23 =>
 gQ v19 false (aa ¢ 30 ~v23 1) fun v24 =>
 gQ v19 false (av ¢ ¥H6 3 ~v24) fun v25 =>
 gQ v19 false (qBin ¢ .sub 3 °31 ¤1 ~v25 £1) fun v26 =>
 gW v19 false H6 (©false H6 33 85 [v22,v26]) fun v27 H7 =>
 gQ v19 false (qBin ¢ .neq 28 °27 °33 ~v21 ~v27) fun v28 =>
 doQ (aW ~v19 ¡ ~v28) fun v29 =>
 gQ v29 false (aa ¢ 33 ~v1 0) fun v30 =>
 gQ v29 false (aa ¢ 30 ~v30 1) fun v31 =>
 gQ v29 false (av ¢ ¥H7 3 ~v31) fun v32 =>
 gQ v29 false (aa ¢ 33 ~v2 0) fun v33 =>
 gQ v29 false (aa ¢ 30 ~v33 1) fun v34 =>
 gQ v29 false (av ¢ ¥H7 3 ~v34) fun v35 =>
 gQ v29 false (qBin ¢ .add 3 °39 °42 ~v32 ~v35) fun v36 =>
 gQ v29 false (qBin ¢ .gtr 3 °43 ¤64 ~v36 £64) fun v37 =>
 doQ (aW ~v29 ¡ ~v37) fun v38 =>
 br ~v38 (
 doQ (bE ¢ 33 (some [])) fun v39 =>
 doW (aH ¢ H7 33 ~v3 ~v39) fun v40 H8 =>
 doQ (aJ ¢ H8 v3 33) fun v41 =>
 Q (.tup [v41,(.v (.int .i64 2))]) H8) (
 doQ (av ¢ ¥H7 33 ~v1) fun v39 =>
 doW (©true H7 48 24 [v39]) fun v40 H8 =>
 doW (nRes H8 §H8 6 (ba ¢ §H8 6 33)) fun v41 H9 =>
 doW (aH ¢ H9 33 ~v41 ~v40) fun v42 H10 =>
 doQ (aa ¢ 33 ~v1 0) fun v43 =>
 doQ (aa ¢ 30 ~v43 1) fun v44 =>
 doQ (av ¢ ¥H10 3 ~v44) fun v45 =>
 doQ (aa ¢ 33 ~v2 0) fun v46 =>
 doQ (aa ¢ 30 ~v46 1) fun v47 =>
 doQ (av ¢ ¥H10 3 ~v47) fun v48 =>
 doQ (qBin ¢ .add 3 °51 °54 ~v45 ~v48) fun v49 =>
 doQ (aa ¢ 33 ~v41 0) fun v50 =>
 doQ (aa ¢ 30 ~v50 1) fun v51 =>
 doW (aH ¢ H10 3 ~v51 ~v49) fun v52 H11 =>
 doQ (aa ¢ 33 ~v41 2) fun v53 =>
 doQ (av ¢ ¥H11 31 ~v53) fun v54 =>
 doQ (aa ¢ 33 ~v2 2) fun v55 =>
 doQ (av ¢ ¥H11 31 ~v55) fun v56 =>
 doW (fy ¢ true H11 §H11 62 (some 31) (some 31) v54 v56) fun v57 H12 =>
 doQ (aa ¢ 33 ~v41 2) fun v58 =>
 doW (aH ¢ H12 31 ~v58 ~v57) fun v59 H13 =>
 doQ (av ¢ ¥H13 33 ~v41) fun v60 =>
 doW (aH ¢ H13 33 ~v3 ~v60) fun v61 H14 =>
 doQ (aJ ¢ H14 v3 33) fun v62 =>
 Q (.tup [v62,(.v (.int .i64 0))]) H14))
theorem bF(x0 x1:AV)(H:Heap)(Q:AV→Heap→Prop)(h : ∀g,bu g x0 x1 H Q):GoL env Try.f28 0 [.code bk] [(0,x0),(1,x1)] H Q:=⟨fun g=>bQ (live:=ji) (cut:=jv) (n:=500) (Eq.mp (by kernel_rfl) (h g))⟩
noncomputable def dO:Code:=(Try.f29.body).getD .skip
def ke:Nat→Option (List Nat):=fun i=>none
def kq:Nat→Bool:=fun i=>false
def bR(g:Nat→AV)(x0 x1:AV)(H:Heap)(Q:AV→Heap→Prop):Prop :=
 doW (nRes H §H 2 (qBox ¢ §H 2 33 ~x0)) fun v1 H1 =>
 doW (nRes H1 §H1 4 (ba ¢ §H1 4 28)) fun v2 H2 =>
 doW (nRes H2 §H2 5 (ba ¢ §H2 5 28)) fun v3 H3 =>
 doQ (av ¢ ¥H3 33 ~v1) fun v4 =>
 doW (©true H3 9 83 [v4]) fun v5 H4 =>
 doQ (qUn ¢ .not ~v5) fun v6 =>
 br ~v6 (
 doQ (bE ¢ 28 (some [])) fun v7 =>
 doQ (bE ¢ 28 (some [])) fun v8 =>
 doW (aH ¢ H4 28 ~v2 ~v7) fun v9 H5 =>
 doW (aH ¢ H5 28 ~v3 ~v8) fun v10 H6 =>
 doQ (aJ ¢ H6 v2 28) fun v11 =>
 doQ (aJ ¢ H6 v3 28) fun v12 =>
 Q (.tup [v11,v12,(.v (.int .i32 0)),(.v (.int .i64 8))]) H6) (
 doQ (qBin ¢ .lss 3 °13 ¤0 ~x1 £0) fun v7 =>
 gQ v7 false (qVal ~x1) fun v8 =>
 gQ v7 false (aa ¢ 33 ~v1 0) fun v9 =>
 gQ v7 false (aa ¢ 30 ~v9 1) fun v10 =>
 gQ v7 false (av ¢ ¥H4 3 ~v10) fun v11 =>
 gQ v7 false (qBin ¢ .geq 3 °16 °19 ~v8 ~v11) fun v12 =>
 doQ (aW ~v7 ¡ ~v12) fun v13 =>
 br ~v13 (
 doQ (bE ¢ 28 (some [])) fun v14 =>
 doQ (bE ¢ 28 (some [])) fun v15 =>
 doW (aH ¢ H4 28 ~v2 ~v14) fun v16 H5 =>
 doW (aH ¢ H5 28 ~v3 ~v15) fun v17 H6 =>
 doQ (aJ ¢ H6 v2 28) fun v18 =>
 doQ (aJ ¢ H6 v3 28) fun v19 =>
 Q (.tup [v18,v19,(.v (.int .i32 0)),(.v (.int .i64 2))]) H6) (
 doQ (av ¢ ¥H4 33 ~v1) fun v14 =>
 doW (©false H4 26 85 [v14,x1]) fun v15 H5 =>
 doQ (av ¢ ¥H5 33 ~v1) fun v16 =>
 doW (©false H5 29 86 [v16,x1]) fun v17 H6 =>
 doQ (aa ¢ 33 ~v1 2) fun v18 =>
 doQ (av ¢ ¥H6 31 ~v18) fun v19 =>
 doQ (aQ ¢ ¥H6 31 ~v19 ~x1) fun v20 =>
 doQ (av ¢ ¥H6 21 ~v20) fun v21 =>
 doW (aH ¢ H6 28 ~v2 ~v15) fun v22 H7 =>
 doW (aH ¢ H7 28 ~v3 ~v17) fun v23 H8 =>
  jF [(v18,v2),(v19,v2),(v20,v2),(v18,v3),(v19,v3),(v20,v3)] [v2,v3] [] H8 ∧
 (doQ (aJ ¢ H8 v2 28) fun v24 =>
 doQ (aJ ¢ H8 v3 28) fun v25 =>
 Q (.tup [v24,v25,v21,(.v (.int .i64 0))]) H8)))
theorem fO(x0 x1:AV)(H:Heap)(Q:AV→Heap→Prop)(h : ∀g,bR g x0 x1 H Q):GoL env Try.f29 0 [.code dO] [(0,x0),(1,x1)] H Q:=⟨fun g=>bQ (live:=ke) (cut:=kq) (n:=500) (Eq.mp (by kernel_rfl) (h g))⟩
noncomputable def nI:Code:=(Try.f31.body).getD .skip
def rT:Nat→Option (List Nat):=fun i=>none
def sk:Nat→Bool:=fun i=>false
def jA(g:Nat→AV)(x0:AV)(H:Heap)(Q:AV→Heap→Prop):Prop :=
 doW (nRes H §H 1 (qBox ¢ §H 1 33 ~x0)) fun v1 H1 =>
 doW (nRes H1 §H1 2 (ba ¢ §H1 2 33)) fun v2 H2 =>
 doQ (aa ¢ 33 ~v1 2) fun v3 =>
 doQ (av ¢ ¥H2 31 ~v3) fun v4 =>
 doW (©true H2 5 81 [v4]) fun v5 H3 =>
 doQ (aa ¢ 33 ~v1 2) fun v6 =>
 doW (aH ¢ H3 31 ~v6 ~v5) fun v7 H4 =>
 doQ (av ¢ ¥H4 33 ~v1) fun v8 =>
 doW (aH ¢ H4 33 ~v2 ~v8) fun v9 H5 =>
 doQ (aJ ¢ H5 v2 33) fun v10 =>
 Q v10 H5
theorem qP(x0:AV)(H:Heap)(Q:AV→Heap→Prop)(h : ∀g,jA g x0 H Q):GoL env Try.f31 0 [.code nI] [(0,x0)] H Q:=⟨fun g=>bQ (live:=rT) (cut:=sk) (n:=500) (Eq.mp (by kernel_rfl) (h g))⟩
noncomputable def eN:Code:=(Try.f32.body).getD .skip
def iM:Nat→Option (List Nat):=fun i=>none
def iP:Nat→Bool:=fun i=>false
def eO(g:Nat→AV)(x0:AV)(H:Heap)(Q:AV→Heap→Prop):Prop :=
 doW (nRes H §H 1 (qBox ¢ §H 1 33 ~x0)) fun v1 H1 =>
 doQ (av ¢ ¥H1 33 ~v1) fun v2 =>
 doW (©true H1 4 83 [v2]) fun v3 H2 =>
 doQ (qUn ¢ .not ~v3) fun v4 =>
 br ~v4 (
 Q (.v (.int .i64 8)) H2) (
 Q (.v (.int .i64 0)) H2)
theorem iC(x0:AV)(H:Heap)(Q:AV→Heap→Prop)(h : ∀g,eO g x0 H Q):GoL env Try.f32 0 [.code eN] [(0,x0)] H Q:=⟨fun g=>bQ (live:=iM) (cut:=iP) (n:=500) (Eq.mp (by kernel_rfl) (h g))⟩
noncomputable def c8:Code:=(Try.f33.body).getD .skip
noncomputable def bW:List Item:=(dp 2 400 [.code c8]).getD []
def eJ:Nat→Option (List Nat):=fun i=>cond (Nat.beq i 2) (some [2,1]) (none)
def eM:Nat→Bool:=fun i=>false
def eP(dep:Nat)(g:Nat→AV)(x0:AV)(H:Heap)(Q:AV→Heap→Prop):Prop :=
 doW (nRes H (⟨(dep+1),1,Heap.gen H (dep+1) 1,0⟩:Ref) (qBox ¢ (⟨(dep+1),1,Heap.gen H (dep+1) 1,0⟩:Ref) 33 ~x0)) fun v1 H1 =>
  GoL env Try.f33 (dep+1) bW [(2,(.v (.int .i64 0))),(1,v1)] H1 Q
theorem iE(dep:Nat)(x0:AV)(H:Heap)(Q:AV→Heap→Prop)(h : ∀g,eP dep g x0 H Q):GoL env Try.f33 (dep+1) [.code c8] [(0,x0)] H Q:=⟨fun g=>bQ (live:=eJ) (cut:=eM) (n:=500) (Eq.mp (by kernel_rfl) (h g))⟩
def bX(dep:Nat)(g:Nat→AV)(x2 x1:AV)(H:Heap)(Q:AV→Heap→Prop):Prop :=
 doQ (aa ¢ 33 ~x1 2) fun v1 =>
 doQ (av ¢ ¥H 31 ~v1) fun v2 =>
 doQ (aX ¢ false ¥H (⟨(dep+1),6,Heap.gen H (dep+1) 6,0⟩:Ref) .len #[31] [v2]) fun v3 =>
 doQ (qBin ¢ .lss 3 °3 °6 ~x2 ~v3) fun v4 =>
 br ~v4 (
 doQ (aa ¢ 33 ~x1 2) fun v5 =>
 doQ (av ¢ ¥H 31 ~v5) fun v6 =>
 doQ (aa ¢ 33 ~x1 2) fun v7 =>
 doQ (av ¢ ¥H 31 ~v7) fun v8 =>
 doQ (aQ ¢ ¥H 31 ~v8 ~x2) fun v9 =>
 doQ (av ¢ ¥H 21 ~v9) fun v10 =>
 doQ (qBin ¢ .add 21 °17 (.const (.int .i32 1)) ~v10 (some (.v (.int .i32 1)))) fun v11 =>
 doQ (aQ ¢ ¥H 31 ~v6 ~x2) fun v12 =>
 doW (aH ¢ H 21 ~v12 ~v11) fun v13 H1 =>
 doQ (qBin ¢ .add 3 °8 ¤1 ~x2 £1) fun v14 =>
  GoL env Try.f33 (dep+1) bW [(2,v14),(1,x1)] H1 Q) (
 Q (.v (.tuple #[])) H)
theorem dU(dep:Nat)(x2 x1:AV)(H:Heap)(Q:AV→Heap→Prop)(h : ∀g,bX dep g x2 x1 H Q):GoL env Try.f33 (dep+1) bW [(2,x2),(1,x1)] H Q:=kN fun g=>bQ (live:=eJ) (cut:=eM) (n:=500) (Eq.mp (by kernel_rfl) (h g))
noncomputable def fu:Code:=(Try.f83.body).getD .skip
def jM:Nat→Option (List Nat):=fun i=>none
def jS:Nat→Bool:=fun i=>false
def bN(g:Nat→AV)(x0:AV)(H:Heap)(Q:AV→Heap→Prop):Prop :=
 doW (nRes H §H 1 (qBox ¢ §H 1 33 ~x0)) fun v1 H1 =>
 doQ (aa ¢ 33 ~v1 0) fun v2 =>
 doQ (av ¢ ¥H1 30 ~v2) fun v3 =>
 doW (©true H1 5 119 [v3]) fun v4 H2 =>
 doQ (qUn ¢ .not ~v4) fun v5 =>
 gQ v5 false (aa ¢ 33 ~v1 2) fun v6 =>
 gQ v5 false (av ¢ ¥H2 31 ~v6) fun v7 =>
 gQ v5 false (aX ¢ false ¥H2 §H2 10 .len #[31] [v7]) fun v8 =>
 gQ v5 false (aa ¢ 33 ~v1 0) fun v9 =>
 gQ v5 false (aa ¢ 30 ~v9 1) fun v10 =>
 gQ v5 false (av ¢ ¥H2 3 ~v10) fun v11 =>
 gQ v5 false (qBin ¢ .neq 3 °10 °13 ~v8 ~v11) fun v12 =>
 doQ (aW ~v5 ¡ ~v12) fun v13 =>
 gQ v13 false (aa ¢ 33 ~v1 2) fun v14 =>
 gQ v13 false (av ¢ ¥H2 31 ~v14) fun v15 =>
 gW v13 false H2 (©true H2 19 122 [v15]) fun v16 H3 =>
 gQ v13 false (qBin ¢ .neq 3 °19 ¤0 ~v16 £0) fun v17 =>
 doQ (aW ~v13 ¡ ~v17) fun v18 =>
 br ~v18 (
 Q (.v (.bool false)) H3) (
 doQ (aa ¢ 33 ~v1 1) fun v19 =>
 doQ (av ¢ ¥H3 28 ~v19) fun v20 =>
 doW (©true H3 24 124 [v20]) fun v21 H4 =>
 gQ v21 false (aa ¢ 33 ~v1 1) fun v22 =>
 gQ v21 false (av ¢ ¥H4 28 ~v22) fun v23 =>
 gW v21 false H4 (©true H4 28 121 [v23]) fun v24 H5 =>
 gQ v21 false (qVal ~v24) fun v25 =>
 gQ v25 true (aa ¢ 33 ~v1 1) fun v26 =>
 gQ v25 true (aa ¢ 28 ~v26 1) fun v27 =>
 gQ v25 true (av ¢ ¥H5 3 ~v27) fun v28 =>
 gQ v25 true (aa ¢ 33 ~v1 0) fun v29 =>
 gQ v25 true (aa ¢ 30 ~v29 0) fun v30 =>
 gQ v25 true (aa ¢ 28 ~v30 1) fun v31 =>
 gQ v25 true (av ¢ ¥H5 3 ~v31) fun v32 =>
 gQ v25 true (qBin ¢ .lss 3 °32 °36 ~v28 ~v32) fun v33 =>
 gQ v21 false (aW ~v25 ~v33 ¿) fun v34 =>
 doQ (aW ~v21 ¡ ~v34) fun v35 =>
 Q v35 H5)
theorem jH(x0:AV)(H:Heap)(Q:AV→Heap→Prop)(h : ∀g,bN g x0 H Q):GoL env Try.f83 0 [.code fu] [(0,x0)] H Q:=⟨fun g=>bQ (live:=jM) (cut:=jS) (n:=500) (Eq.mp (by kernel_rfl) (h g))⟩
noncomputable def dt:Code:=(Try.f84.body).getD .skip
def jh:Nat→Option (List Nat):=fun i=>none
def ju:Nat→Bool:=fun i=>false
def dv(g:Nat→AV)(x0 x1 x2:AV)(H:Heap)(Q:AV→Heap→Prop):Prop :=
 doW (nRes H §H 3 (qBox ¢ §H 3 33 ~x0)) fun v1 H1 =>
 doW (nRes H1 §H1 6 (ba ¢ §H1 6 33)) fun v2 H2 =>
 doQ (av ¢ ¥H2 33 ~v1) fun v3 =>
 doW (©false H2 9 85 [v3,x1]) fun v4 H3 =>
 doQ (bE ¢ 30 (some [(0,v4),(1,x2)])) fun v5 =>
 doQ (av ¢ ¥H3 33 ~v1) fun v6 =>
 doW (©false H3 14 86 [v6,x1]) fun v7 H4 =>
 doQ (aa ¢ 33 ~v1 2) fun v8 =>
 doQ (av ¢ ¥H4 31 ~v8) fun v9 =>
 doQ (qBin ¢ .add 3 °18 °19 ~x1 ~x2) fun v10 =>
 doQ (eX ¢ ¥H4 31 ~v9 (oi x1) (oi v10) (some none)) fun v11 =>
 doQ (bE ¢ 33 (some [(0,v5),(1,v7),(2,v11)])) fun v12 =>
 doW (©false H4 23 24 [v12]) fun v13 H5 =>
 doW (aH ¢ H5 33 ~v2 ~v13) fun v14 H6 =>
 doQ (aJ ¢ H6 v2 33) fun v15 =>
 Q v15 H6
theorem eV(x0 x1 x2:AV)(H:Heap)(Q:AV→Heap→Prop)(h : ∀g,dv g x0 x1 x2 H Q):GoL env Try.f84 0 [.code dt] [(0,x0),(1,x1),(2,x2)] H Q:=⟨fun g=>bQ (live:=jh) (cut:=ju) (n:=500) (Eq.mp (by kernel_rfl) (h g))⟩
noncomputable def fW:Code:=(Try.f85.body).getD .skip
def kb:Nat→Option (List Nat):=fun i=>none
def kp:Nat→Bool:=fun i=>false
def fZ(g:Nat→AV)(x0 x1:AV)(H:Heap)(Q:AV→Heap→Prop):Prop :=
 doW (nRes H §H 2 (qBox ¢ §H 2 33 ~x0)) fun v1 H1 =>
 doW (nRes H1 §H1 4 (ba ¢ §H1 4 28)) fun v2 H2 =>
 doQ (aa ¢ 33 ~v1 0) fun v3 =>
 doQ (aa ¢ 30 ~v3 0) fun v4 =>
 doQ (aa ¢ 28 ~v4 0) fun v5 =>
 doQ (av ¢ ¥H2 26 ~v5) fun v6 =>
 doQ (aa ¢ 33 ~v1 0) fun v7 =>
 doQ (aa ¢ 30 ~v7 0) fun v8 =>
 doQ (aa ¢ 28 ~v8 1) fun v9 =>
 doQ (av ¢ ¥H2 3 ~v9) fun v10 =>
 doQ (qBin ¢ .add 3 °12 °13 ~v10 ~x1) fun v11 =>
 doQ (bE ¢ 28 (some [(0,v6),(1,v11)])) fun v12 =>
 doW (aH ¢ H2 28 ~v2 ~v12) fun v13 H3 =>
 doQ (aJ ¢ H3 v2 28) fun v14 =>
 Q v14 H3
theorem jZ(x0 x1:AV)(H:Heap)(Q:AV→Heap→Prop)(h : ∀g,fZ g x0 x1 H Q):GoL env Try.f85 0 [.code fW] [(0,x0),(1,x1)] H Q:=⟨fun g=>bQ (live:=kb) (cut:=kp) (n:=500) (Eq.mp (by kernel_rfl) (h g))⟩
noncomputable def er:Code:=(Try.f86.body).getD .skip
def iq:Nat→Option (List Nat):=fun i=>none
def iw:Nat→Bool:=fun i=>false
def cR(g:Nat→AV)(x0 x1:AV)(H:Heap)(Q:AV→Heap→Prop):Prop :=
 doW (nRes H §H 2 (qBox ¢ §H 2 33 ~x0)) fun v1 H1 =>
 doW (nRes H1 §H1 4 (ba ¢ §H1 4 28)) fun v2 H2 =>
 doQ (qBin ¢ .eql 3 °5 ¤0 ~x1 £0) fun v3 =>
 br ~v3 (
 doQ (aa ¢ 33 ~v1 1) fun v4 =>
 doQ (av ¢ ¥H2 28 ~v4) fun v5 =>
 doW (aH ¢ H2 28 ~v2 ~v5) fun v6 H3 =>
 doQ (aJ ¢ H3 v2 28) fun v7 =>
 Q v7 H3) (
 doQ (av ¢ ¥H2 33 ~v1) fun v4 =>
 doQ (qBin ¢ .sub 3 °10 ¤1 ~x1 £1) fun v5 =>
 doW (©true H2 12 85 [v4,v5]) fun v6 H3 =>
 doW (aH ¢ H3 28 ~v2 ~v6) fun v7 H4 =>
 doQ (aJ ¢ H4 v2 28) fun v8 =>
 Q v8 H4)
theorem ij(x0 x1:AV)(H:Heap)(Q:AV→Heap→Prop)(h : ∀g,cR g x0 x1 H Q):GoL env Try.f86 0 [.code er] [(0,x0),(1,x1)] H Q:=⟨fun g=>bQ (live:=iq) (cut:=iw) (n:=500) (Eq.mp (by kernel_rfl) (h g))⟩
noncomputable def fa:Code:=(Try.f124.body).getD .skip
def je:Nat→Option (List Nat):=fun i=>none
def jq:Nat→Bool:=fun i=>false
def fh(g:Nat→AV)(x0:AV)(H:Heap)(Q:AV→Heap→Prop):Prop :=
 doW (nRes H §H 1 (qBox ¢ §H 1 28 ~x0)) fun v1 H1 =>
 doQ (av ¢ ¥H1 28 ~v1) fun v2 =>
 doQ (bE ¢ 28 (some [])) fun v3 =>
 doQ (qBin ¢ .eql 28 °3 °4 ~v2 ~v3) fun v4 =>
 Q v4 H1
theorem iU(x0:AV)(H:Heap)(Q:AV→Heap→Prop)(h : ∀g,fh g x0 H Q):GoL env Try.f124 0 [.code fa] [(0,x0)] H Q:=⟨fun g=>bQ (live:=je) (cut:=jq) (n:=500) (Eq.mp (by kernel_rfl) (h g))⟩
end Go.Proofs.Ytjampffmlnplcaa
