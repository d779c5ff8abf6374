/-
  What is to be shown of each function, computed from its code. No statement of a seat is proved here.
-/
import Derived.Test.YtjampffmlnplcaaRnTy
set_option linter.unusedVariables false
set_option maxRecDepth 1000000
namespace Go.Proofs.Ytjampffmlnplcaa
open Go.Ab
noncomputable def nM:Code:=(Try.f80.body).getD .skip
def rW:Nat→Option (List Nat):=fun i=>none
def so:Nat→Bool:=fun i=>false
def cQ(g:Nat→AV)(x0:AV)(H:Heap)(Q:AV→Heap→Prop):Prop :=
 doW (Zc H 1 49 x0) fun v1 H1 =>
 doQ (Zf 49 v1 0) fun v2 =>
 doQ (Zb H1 5 v2) fun v3 =>
 doQ (qBin env.P .eql 5 (Operand.tmp 4) (.const (.int .u8 0)) (some v3) (some (a8 0))) fun v4 =>
 gQ v4 false (Zf 49 v1 0) fun v5 =>
 gQ v4 false (Zb H1 5 v5) fun v6 =>
 gQ v4 false (qBin env.P .geq 5 (Operand.tmp 8) (.const (.int .u8 4)) (some v6) (some (a8 4))) fun v7 =>
 doQ (Zj v4 v7) fun v8 =>
 gQ v8 false (Zf 49 v1 1) fun v9 =>
 gQ v8 false (Zb H1 26 v9) fun v10 =>
 gW v8 false H1 (Za false H1 14 113 [v10]) fun v11 H2 =>
 gQ v8 false (Zh 35 14 0 v11) fun v12 =>
 doQ (Zj v8 v12) fun v13 =>
 gQ v13 false (Zf 49 v1 2) fun v14 =>
 gQ v13 false (Zb H2 3 v14) fun v15 =>
 gQ v13 false (Zp 3 19 1 v15) fun v16 =>
 doQ (Zj v13 v16) fun v17 =>
 gQ v17 false (Zf 49 v1 2) fun v18 =>
 gQ v17 false (Zb H2 3 v18) fun v19 =>
 gQ v17 false (Zn 3 24 16777216 v19) fun v20 =>
 doQ (Zj v17 v20) fun v21 =>
 gQ v21 false (Zf 49 v1 3) fun v22 =>
 gQ v21 false (Zb H2 30 v22) fun v23 =>
 gW v21 false H2 (Za false H2 30 78 [v23]) fun v24 H3 =>
 gQ v21 false (Zh 35 30 0 v24) fun v25 =>
 doQ (Zj v21 v25) fun v26 =>
 gW v26 false H3 (Za false H3 34 117 []) fun v27 H4 =>
 gQ v26 false (Zf 49 v1 0) fun v28 =>
 gQ v26 false (Zb H4 5 v28) fun v29 =>
 gQ v26 false (kV env.P 164 (some v27) (some v29)) fun v30 =>
 gQ v26 false (lK env.P 163 (some v30) 0) fun v31 =>
 gQ v26 false (Zb H4 49 v1) fun v32 =>
 gW v26 false H4 (Zs H4 40 v31 v32) fun v33 H5 =>
 gQ v26 false (Zy v33) fun v34 =>
 doQ (Zj v26 v34) fun v35 =>
 br (some v35) (
 Q (.v (.int .i64 8)) H5) (
 Q (.v (.int .i64 0)) H5)
theorem qS(x0:AV)(H:Heap)(Q:AV→Heap→Prop)(h : ∀g,cQ g x0 H Q):GoL env Try.f80 0 [.code nM] [(0,x0)] H Q:=⟨fun g=>bQ (live:=rW) (cut:=so) (n:=500) (Eq.mp (by kernel_rfl) (h g))⟩
noncomputable def mb:Code:=(Try.f140.body).getD .skip
def pn:Nat→Option (List Nat):=fun i=>none
def pC:Nat→Bool:=fun i=>false
def jC(g:Nat→AV)(x0:AV)(H:Heap)(Q:AV→Heap→Prop):Prop :=
 doW (Zc H 1 49 x0) fun v1 H1 =>
 doQ (Zf 49 v1 4) fun v2 =>
 doQ (Zb H1 28 v2) fun v3 =>
 doQ (Zx 28) fun v4 =>
 doQ (Zi 28 4 5 v3 v4) fun v5 =>
 gQ v5 true (Zf 49 v1 6) fun v6 =>
 gQ v5 true (Zb H1 31 v6) fun v7 =>
 gQ v5 true (Zl H1 10 31 v7) fun v8 =>
 gQ v5 true (Zk 3 10 0 v8) fun v9 =>
 doQ (Ze v5 v9) fun v10 =>
 Q v10 H1
theorem oU(x0:AV)(H:Heap)(Q:AV→Heap→Prop)(h : ∀g,jC g x0 H Q):GoL env Try.f140 0 [.code mb] [(0,x0)] H Q:=⟨fun g=>bQ (live:=pn) (cut:=pC) (n:=500) (Eq.mp (by kernel_rfl) (h g))⟩
noncomputable def ma:Code:=(Try.f141.body).getD .skip
def pk:Nat→Option (List Nat):=fun i=>none
def pB:Nat→Bool:=fun i=>false
def me(g:Nat→AV)(x0:AV)(H:Heap)(Q:AV→Heap→Prop):Prop :=
 doW (Zc H 1 49 x0) fun v1 H1 =>
 doQ (Zf 49 v1 5) fun v2 =>
 doQ (Zb H1 24 v2) fun v3 =>
 doW (Za false H1 5 142 []) fun v4 H2 =>
 doQ (Zi 24 4 5 v3 v4) fun v5 =>
 Q v5 H2
theorem oT(x0:AV)(H:Heap)(Q:AV→Heap→Prop)(h : ∀g,me g x0 H Q):GoL env Try.f141 0 [.code ma] [(0,x0)] H Q:=⟨fun g=>bQ (live:=pk) (cut:=pB) (n:=500) (Eq.mp (by kernel_rfl) (h g))⟩
noncomputable def kY:Code:=(Try.f142.body).getD .skip
def nY:Nat→Option (List Nat):=fun i=>none
def n8:Nat→Bool:=fun i=>false
def k5(g:Nat→AV)(H:Heap)(Q:AV→Heap→Prop):Prop :=
 doW (Zd H 0 24) fun v1 H1 =>
 doQ (Zx 24) fun v2 =>
 doW (Zg H1 24 v1 v2) fun v3 H2 =>
 doQ (Zz H2 v1 24) fun v4 =>
 Q v4 H2
theorem nT(H:Heap)(Q:AV→Heap→Prop)(h : ∀g,k5 g  H Q):GoL env Try.f142 0 [.code kY] [] H Q:=⟨fun g=>bQ (live:=nY) (cut:=n8) (n:=500) (Eq.mp (by kernel_rfl) (h g))⟩
noncomputable def l9:Code:=(Try.f143.body).getD .skip
def pj:Nat→Option (List Nat):=fun i=>none
def pA:Nat→Bool:=fun i=>false
def cw(g:Nat→AV)(x0 x1:AV)(H:Heap)(Q:AV→Heap→Prop):Prop :=
 doW (Zc H 2 49 x0) fun v1 H1 =>
 doQ (Zf 49 v1 4) fun v2 =>
 doQ (Zb H1 28 v2) fun v3 =>
 doQ (Zx 28) fun v4 =>
 doQ (Zi 28 6 7 v3 v4) fun v5 =>
 gQ v5 false (Zf 49 v1 4) fun v6 =>
 gQ v5 false (Zb H1 28 v6) fun v7 =>
 gW v5 false H1 (Za true H1 12 77 [v7]) fun v8 H2 =>
 gQ v5 false (Zk 35 12 0 v8) fun v9 =>
 doQ (Zj v5 v9) fun v10 =>
 doQ (Zb H2 130 x1) fun v11 =>
 doQ (Zb H2 49 v1) fun v12 =>
 doW (Zs H2 17 v11 v12) fun v13 H3 =>
 gQ v13 true (ZA v10) fun v14 =>
 doQ (Ze v13 v14) fun v15 =>
 gQ v15 true (Zf 49 v1 3) fun v16 =>
 gQ v15 true (Zf 30 v16 0) fun v17 =>
 gQ v15 true (Zf 28 v17 0) fun v18 =>
 gQ v15 true (Zb H3 26 v18) fun v19 =>
 gQ v15 true (Zf 49 v1 1) fun v20 =>
 gQ v15 true (Zb H3 26 v20) fun v21 =>
 gQ v15 true (Zi 26 25 27 v19 v21) fun v22 =>
 doQ (Ze v15 v22) fun v23 =>
 gQ v23 true (Zf 49 v1 6) fun v24 =>
 gQ v23 true (Zb H3 31 v24) fun v25 =>
 gQ v23 true (Zl H3 33 31 v25) fun v26 =>
 gQ v23 true (Zf 49 v1 3) fun v27 =>
 gQ v23 true (Zf 30 v27 1) fun v28 =>
 gQ v23 true (Zb H3 3 v28) fun v29 =>
 gQ v23 true (Zi 3 33 36 v26 v29) fun v30 =>
 doQ (Ze v23 v30) fun v31 =>
 gQ v31 true (Zf 49 v1 6) fun v32 =>
 gQ v31 true (Zb H3 31 v32) fun v33 =>
 gW v31 true H3 (Za true H3 42 79 [v33]) fun v34 H4 =>
 gQ v31 true (Zk 35 42 0 v34) fun v35 =>
 doQ (Ze v31 v35) fun v36 =>
 Q v36 H4
theorem oS(x0 x1:AV)(H:Heap)(Q:AV→Heap→Prop)(h : ∀g,cw g x0 x1 H Q):GoL env Try.f143 0 [.code l9] [(0,x0),(1,x1)] H Q:=⟨fun g=>bQ (live:=pj) (cut:=pA) (n:=500) (Eq.mp (by kernel_rfl) (h g))⟩
noncomputable def l8:Code:=(Try.f145.body).getD .skip
def ph:Nat→Option (List Nat):=fun i=>none
def pz:Nat→Bool:=fun i=>false
def md(g:Nat→AV)(x0 x1 x2:AV)(H:Heap)(Q:AV→Heap→Prop):Prop :=
 doW (Zc H 3 49 x0) fun v1 H1 =>
 doQ (Zb H1 130 x1) fun v2 =>
 doQ (Zb H1 49 v1) fun v3 =>
 doW (Zs H1 7 v2 v3) fun v4 H2 =>
 gQ v4 true (Zb H2 130 x2) fun v5 =>
 gQ v4 true (Zb H2 49 v1) fun v6 =>
 gW v4 true H2 (Zs H2 11 v5 v6) fun v7 H3 =>
 doQ (Ze v4 v7) fun v8 =>
 Q v8 H3
theorem oR(x0 x1 x2:AV)(H:Heap)(Q:AV→Heap→Prop)(h : ∀g,md g x0 x1 x2 H Q):GoL env Try.f145 0 [.code l8] [(0,x0),(1,x1),(2,x2)] H Q:=⟨fun g=>bQ (live:=ph) (cut:=pz) (n:=500) (Eq.mp (by kernel_rfl) (h g))⟩
noncomputable def l7:Code:=(Try.f147.body).getD .skip
def pg:Nat→Option (List Nat):=fun i=>none
def py:Nat→Bool:=fun i=>false
def mc(g:Nat→AV)(x0 x1:AV)(H:Heap)(Q:AV→Heap→Prop):Prop :=
 doW (Zc H 2 49 x0) fun v1 H1 =>
 doQ (Zb H1 130 x1) fun v2 =>
 doQ (Zb H1 49 v1) fun v3 =>
 doW (Zs H1 6 v2 v3) fun v4 H2 =>
 gQ v4 true (Zf 49 v1 5) fun v5 =>
 gQ v4 true (Zb H2 24 v5) fun v6 =>
 gW v4 true H2 (Za true H2 10 125 [v6]) fun v7 H3 =>
 gQ v4 true (Zk 35 10 0 v7) fun v8 =>
 doQ (Ze v4 v8) fun v9 =>
 Q v9 H3
theorem oQ(x0 x1:AV)(H:Heap)(Q:AV→Heap→Prop)(h : ∀g,mc g x0 x1 H Q):GoL env Try.f147 0 [.code l7] [(0,x0),(1,x1)] H Q:=⟨fun g=>bQ (live:=pg) (cut:=py) (n:=500) (Eq.mp (by kernel_rfl) (h g))⟩
noncomputable def fv:Code:=(Try.f82.body).getD .skip
def jO:Nat→Option (List Nat):=fun i=>none
def jU:Nat→Bool:=fun i=>false
def aD(g:Nat→AV)(x0:AV)(H:Heap)(Q:AV→Heap→Prop):Prop :=
 doW (Zc H 1 49 x0) fun v1 H1 =>
 doQ (Zf 49 v1 1) fun v2 =>
 doQ (Zb H1 26 v2) fun v3 =>
 doW (Za true H1 6 118 [v3]) fun v4 H2 =>
 doQ (Zy v4) fun v5 =>
 gQ v5 false (Zf 49 v1 2) fun v6 =>
 gQ v5 false (Zb H2 3 v6) fun v7 =>
 gQ v5 false (Zp 3 10 1 v7) fun v8 =>
 doQ (Zj v5 v8) fun v9 =>
 gQ v9 false (Zf 49 v1 2) fun v10 =>
 gQ v9 false (Zb H2 3 v10) fun v11 =>
 gQ v9 false (Zn 3 15 16777216 v11) fun v12 =>
 doQ (Zj v9 v12) fun v13 =>
 gQ v13 false (Zf 49 v1 3) fun v14 =>
 gQ v13 false (Zb H2 30 v14) fun v15 =>
 gW v13 false H2 (Za true H2 21 119 [v15]) fun v16 H3 =>
 gQ v13 false (Zy v16) fun v17 =>
 doQ (Zj v13 v17) fun v18 =>
 br (some v18) (
 Q (.v (.bool false)) H3) (
 doQ (Zf 49 v1 5) fun v19 =>
 doQ (Zb H3 24 v19) fun v20 =>
 doQ (Zx 24) fun v21 =>
 doQ (Zi 24 25 26 v20 v21) fun v22 =>
 doQ (Zf 49 v1 0) fun v23 =>
 doQ (Zb H3 5 v23) fun v24 =>
 doQ (qBin env.P .eql 5 (Operand.tmp 29) (.const (.int .u8 1)) (some v24) (some (a8 1))) fun v25 =>
 br (some v25) (
 gQ v22 true (Zf 49 v1 4) fun v26 =>
 gQ v22 true (Zb H3 28 v26) fun v27 =>
 gW v22 true H3 (Za true H3 35 120 [v27]) fun v28 H4 =>
 gQ v22 true (ZA v28) fun v29 =>
 gQ v29 false (Zf 49 v1 4) fun v30 =>
 gQ v29 false (Zb H4 28 v30) fun v31 =>
 gW v29 false H4 (Za true H4 39 121 [v31]) fun v32 H5 =>
 gQ v22 true (Zj v29 v32) fun v33 =>
 doQ (Ze v22 v33) fun v34 =>
 gQ v34 true (Zf 49 v1 3) fun v35 =>
 gQ v34 true (Zf 30 v35 0) fun v36 =>
 gQ v34 true (Zf 28 v36 0) fun v37 =>
 gQ v34 true (Zb H5 26 v37) fun v38 =>
 gQ v34 true (Zf 49 v1 1) fun v39 =>
 gQ v34 true (Zb H5 26 v39) fun v40 =>
 gQ v34 true (Zi 26 46 48 v38 v40) fun v41 =>
 doQ (Ze v34 v41) fun v42 =>
 gQ v42 true (Zf 49 v1 6) fun v43 =>
 gQ v42 true (Zb H5 31 v43) fun v44 =>
 gQ v42 true (Zl H5 54 31 v44) fun v45 =>
 gQ v42 true (Zf 49 v1 3) fun v46 =>
 gQ v42 true (Zf 30 v46 1) fun v47 =>
 gQ v42 true (Zb H5 3 v47) fun v48 =>
 gQ v42 true (Zi 3 54 57 v45 v48) fun v49 =>
 doQ (Ze v42 v49) fun v50 =>
 gQ v50 true (Zf 49 v1 6) fun v51 =>
 gQ v50 true (Zb H5 31 v51) fun v52 =>
 gW v50 true H5 (Za true H5 63 122 [v52]) fun v53 H6 =>
 gQ v50 true (Zk 3 63 0 v53) fun v54 =>
 doQ (Ze v50 v54) fun v55 =>
 Q v55 H6) (
 doQ (Zf 49 v1 4) fun v26 =>
 doQ (Zb H3 28 v26) fun v27 =>
 doW (Za true H3 68 120 [v27]) fun v28 H4 =>
 doQ (Zy v28) fun v29 =>
 gQ v29 false (Zf 49 v1 6) fun v30 =>
 gQ v29 false (Zb H4 31 v30) fun v31 =>
 gQ v29 false (Zl H4 73 31 v31) fun v32 =>
 gQ v29 false (Zm 3 73 0 v32) fun v33 =>
 doQ (Zj v29 v33) fun v34 =>
 br (some v34) (
 Q (.v (.bool false)) H4) (
 doQ (Zf 49 v1 0) fun v35 =>
 doQ (Zb H4 5 v35) fun v36 =>
 doQ (qBin env.P .eql 5 (Operand.tmp 77) (.const (.int .u8 2)) (some v36) (some (a8 2))) fun v37 =>
 gQ v37 true (ZA v22) fun v38 =>
 doQ (Ze v37 v38) fun v39 =>
 gQ v39 false (Zf 49 v1 0) fun v40 =>
 gQ v39 false (Zb H4 5 v40) fun v41 =>
 gQ v39 false (qBin env.P .eql 5 (Operand.tmp 84) (.const (.int .u8 3)) (some v41) (some (a8 3))) fun v42 =>
 gQ v39 false (ZA v42) fun v43 =>
 gQ v43 true (Zf 49 v1 5) fun v44 =>
 gQ v43 true (Zb H4 24 v44) fun v45 =>
 gW v43 true H4 (Za true H4 89 123 [v45]) fun v46 H5 =>
 gQ v39 false (Ze v43 v46) fun v47 =>
 doQ (Zj v39 v47) fun v48 =>
 Q v48 H5)))
theorem jI(x0:AV)(H:Heap)(Q:AV→Heap→Prop)(h : ∀g,aD g x0 H Q):GoL env Try.f82 0 [.code fv] [(0,x0)] H Q:=⟨fun g=>bQ (live:=jO) (cut:=jU) (n:=500) (Eq.mp (by kernel_rfl) (h g))⟩
noncomputable def dE:Code:=(Try.f118.body).getD .skip
def gx:Nat→Option (List Nat):=fun i=>none
def gz:Nat→Bool:=fun i=>false
def dH(g:Nat→AV)(x0:AV)(H:Heap)(Q:AV→Heap→Prop):Prop :=
 doW (Zc H 1 26 x0) fun v1 H1 =>
 doQ (Zf 26 v1 0) fun v2 =>
 doQ (Zb H1 24 v2) fun v3 =>
 doW (Za true H1 5 123 [v3]) fun v4 H2 =>
 gQ v4 true (Zf 26 v1 1) fun v5 =>
 gQ v4 true (Zb H2 5 v5) fun v6 =>
 gQ v4 true (qBin env.P .lss 5 (Operand.tmp 8) (.const (.int .u8 8)) (some v6) (some (a8 8))) fun v7 =>
 doQ (Ze v4 v7) fun v8 =>
 Q v8 H2
theorem gn(x0:AV)(H:Heap)(Q:AV→Heap→Prop)(h : ∀g,dH g x0 H Q):GoL env Try.f118 0 [.code dE] [(0,x0)] H Q:=⟨fun g=>bQ (live:=gx) (cut:=gz) (n:=500) (Eq.mp (by kernel_rfl) (h g))⟩
noncomputable def dW:Code:=(Try.f119.body).getD .skip
def gZ:Nat→Option (List Nat):=fun i=>none
def hC:Nat→Bool:=fun i=>false
def bJ(g:Nat→AV)(x0:AV)(H:Heap)(Q:AV→Heap→Prop):Prop :=
 doW (Zc H 1 30 x0) fun v1 H1 =>
 doQ (Zf 30 v1 0) fun v2 =>
 doQ (Zb H1 28 v2) fun v3 =>
 doW (Za true H1 5 121 [v3]) fun v4 H2 =>
 gQ v4 true (Zf 30 v1 1) fun v5 =>
 gQ v4 true (Zb H2 3 v5) fun v6 =>
 gQ v4 true (Zn 3 8 1 v6) fun v7 =>
 doQ (Ze v4 v7) fun v8 =>
 gQ v8 true (Zf 30 v1 1) fun v9 =>
 gQ v8 true (Zb H2 3 v9) fun v10 =>
 gQ v8 true (Zo 3 13 64 v10) fun v11 =>
 doQ (Ze v8 v11) fun v12 =>
 gQ v12 true (Zf 30 v1 0) fun v13 =>
 gQ v12 true (Zf 28 v13 1) fun v14 =>
 gQ v12 true (Zb H2 3 v14) fun v15 =>
 gQ v12 true (Zf 30 v1 1) fun v16 =>
 gQ v12 true (Zb H2 3 v16) fun v17 =>
 gQ v12 true (qBin env.P .sub 3 (Operand.const (Value.int IntKind.i64 1099511627777)) (Operand.tmp 21) (some (AV.v (Value.int IntKind.i64 1099511627777))) (some v17)) fun v18 =>
 gQ v12 true (qBin env.P .leq 3 (Operand.tmp 19) (Operand.tmp 22) (some v15) (some v18)) fun v19 =>
 doQ (Ze v12 v19) fun v20 =>
 Q v20 H2
theorem gY(x0:AV)(H:Heap)(Q:AV→Heap→Prop)(h : ∀g,bJ g x0 H Q):GoL env Try.f119 0 [.code dW] [(0,x0)] H Q:=⟨fun g=>bQ (live:=gZ) (cut:=hC) (n:=500) (Eq.mp (by kernel_rfl) (h g))⟩
noncomputable def fc:Code:=(Try.f120.body).getD .skip
def jj:Nat→Option (List Nat):=fun i=>none
def jw:Nat→Bool:=fun i=>false
def fj(g:Nat→AV)(x0:AV)(H:Heap)(Q:AV→Heap→Prop):Prop :=
 doW (Zc H 1 28 x0) fun v1 H1 =>
 doQ (Zb H1 28 v1) fun v2 =>
 doQ (Zx 28) fun v3 =>
 doQ (Zi 28 3 4 v2 v3) fun v4 =>
 Q v4 H1
theorem iW(x0:AV)(H:Heap)(Q:AV→Heap→Prop)(h : ∀g,fj g x0 H Q):GoL env Try.f120 0 [.code fc] [(0,x0)] H Q:=⟨fun g=>bQ (live:=jj) (cut:=jw) (n:=500) (Eq.mp (by kernel_rfl) (h g))⟩
noncomputable def fw:Code:=(Try.f121.body).getD .skip
def jP:Nat→Option (List Nat):=fun i=>none
def jV:Nat→Bool:=fun i=>false
def fA(g:Nat→AV)(x0:AV)(H:Heap)(Q:AV→Heap→Prop):Prop :=
 doW (Zc H 1 28 x0) fun v1 H1 =>
 doQ (Zf 28 v1 0) fun v2 =>
 doQ (Zb H1 26 v2) fun v3 =>
 doW (Za true H1 5 118 [v3]) fun v4 H2 =>
 gQ v4 true (Zf 28 v1 1) fun v5 =>
 gQ v4 true (Zb H2 3 v5) fun v6 =>
 gQ v4 true (Zn 3 8 1 v6) fun v7 =>
 doQ (Ze v4 v7) fun v8 =>
 gQ v8 true (Zf 28 v1 1) fun v9 =>
 gQ v8 true (Zb H2 3 v9) fun v10 =>
 gQ v8 true (Zo 3 13 1099511627776 v10) fun v11 =>
 doQ (Ze v8 v11) fun v12 =>
 Q v12 H2
theorem jJ(x0:AV)(H:Heap)(Q:AV→Heap→Prop)(h : ∀g,fA g x0 H Q):GoL env Try.f121 0 [.code fw] [(0,x0)] H Q:=⟨fun g=>bQ (live:=jP) (cut:=jV) (n:=500) (Eq.mp (by kernel_rfl) (h g))⟩
noncomputable def cZ:Code:=(Try.f122.body).getD .skip
noncomputable def bV:List Item:=(dp 4 400 [.code cZ]).getD []
def eI:Nat→Option (List Nat):=fun i=>cond (Nat.beq i 4) (some [3,0]) (none)
def eL:Nat→Bool:=fun i=>false
def c9(g:Nat→AV)(x0:AV)(H:Heap)(Q:AV→Heap→Prop):Prop :=
 doQ (Zl H 5 31 x0) fun v1 =>
 doQ (Zm 3 5 64 v1) fun v2 =>
 br (some v2) (
 Q (.v (.int .i64 4)) H) (
  GoL env Try.f122 0 bV [(3,(.v (.int .i64 0))),(0,x0)] H Q)
theorem iD(x0:AV)(H:Heap)(Q:AV→Heap→Prop)(h : ∀g,c9 g x0 H Q):GoL env Try.f122 0 [.code cZ] [(0,x0)] H Q:=⟨fun g=>bQ (live:=eI) (cut:=eL) (n:=500) (Eq.mp (by kernel_rfl) (h g))⟩
def bK(g:Nat→AV)(x3 x0:AV)(H:Heap)(Q:AV→Heap→Prop):Prop :=
 doQ (Zl H 9 31 x0) fun v1 =>
 doQ (Zt 3 7 9 x3 v1) fun v2 =>
 br (some v2) (
 doQ (Zv H 31 x0 x3) fun v3 =>
 doQ (Zb H 21 v3) fun v4 =>
 doQ (ZD 21 16 v4) fun v5 =>
 gQ v5 true (ZA x0) fun v6 =>
 gQ v5 true (ZA x3) fun v7 =>
 gQ v5 true (Zv H 31 v6 v7) fun v8 =>
 gQ v5 true (Zb H 21 v8) fun v9 =>
 gQ v5 true (dk env.P (Heap.get H) (Ref.mk 0 23 (Heap.gen H 0 23) 0) 21 3 (some v9)) fun v10 =>
 gW v5 true H (Za true H 24 149 [v10]) fun v11 H1 =>
 gQ v5 true (Zy v11) fun v12 =>
 doQ (Ze v5 v12) fun v13 =>
 br (some v13) (
 Q (.v (.int .i64 8)) H1) (
 doQ (Zq 3 11 1 x3) fun v14 =>
  GoL env Try.f122 0 bV [(3,v14),(0,x0)] H1 Q)) (
 Q (.v (.int .i64 0)) H)
theorem dT(x3 x0:AV)(H:Heap)(Q:AV→Heap→Prop)(h : ∀g,bK g x3 x0 H Q):GoL env Try.f122 0 bV [(3,x3),(0,x0)] H Q:=kN fun g=>bQ (live:=eI) (cut:=eL) (n:=500) (Eq.mp (by kernel_rfl) (h g))
noncomputable def fx:Code:=(Try.f123.body).getD .skip
def jQ:Nat→Option (List Nat):=fun i=>none
def jW:Nat→Bool:=fun i=>false
def fB(g:Nat→AV)(x0:AV)(H:Heap)(Q:AV→Heap→Prop):Prop :=
 doW (Zc H 1 24 x0) fun v1 H1 =>
 doQ (Zf 24 v1 0) fun v2 =>
 doQ (Zb H1 5 v2) fun v3 =>
 doQ (qBin env.P .leq 5 (Operand.tmp 4) (.const (.int .u8 15)) (some v3) (some (a8 15))) fun v4 =>
 Q v4 H1
theorem jK(x0:AV)(H:Heap)(Q:AV→Heap→Prop)(h : ∀g,fB g x0 H Q):GoL env Try.f123 0 [.code fx] [(0,x0)] H Q:=⟨fun g=>bQ (live:=jQ) (cut:=jW) (n:=500) (Eq.mp (by kernel_rfl) (h g))⟩
noncomputable def fX:Code:=(Try.f149.body).getD .skip
def kf:Nat→Option (List Nat):=fun i=>none
def kr:Nat→Bool:=fun i=>false
def ga(g:Nat→AV)(x0:AV)(H:Heap)(Q:AV→Heap→Prop):Prop :=
 doQ (Zn 3 3 0 x0) fun v1 =>
 gQ v1 true (ZA x0) fun v2 =>
 gQ v1 true (Zo 3 6 1114111 v2) fun v3 =>
 doQ (Ze v1 v3) fun v4 =>
 gQ v4 true (ZA x0) fun v5 =>
 gQ v4 true (Zp 3 10 55296 v5) fun v6 =>
 gQ v4 true (ZA v6) fun v7 =>
 gQ v7 false (ZA x0) fun v8 =>
 gQ v7 false (Zm 3 13 57343 v8) fun v9 =>
 gQ v4 true (Zj v7 v9) fun v10 =>
 doQ (Ze v4 v10) fun v11 =>
 Q v11 H
theorem j1(x0:AV)(H:Heap)(Q:AV→Heap→Prop)(h : ∀g,ga g x0 H Q):GoL env Try.f149 0 [.code fX] [(0,x0)] H Q:=⟨fun g=>bQ (live:=kf) (cut:=kr) (n:=500) (Eq.mp (by kernel_rfl) (h g))⟩
noncomputable def fe:Code:=(Try.f25.body).getD .skip
def jk:Nat→Option (List Nat):=fun i=>none
def jx:Nat→Bool:=fun i=>false
def dw(g:Nat→AV)(x0:AV)(H:Heap)(Q:AV→Heap→Prop):Prop :=
 doW (Zc H 1 49 x0) fun v1 H1 =>
 doW (Zd H1 2 49) fun v2 H2 =>
 doQ (Zf 49 v1 6) fun v3 =>
 doQ (Zb H2 31 v3) fun v4 =>
 doW (fy env.P true H2 (Ref.mk 0 5 (Heap.gen H2 0 5) 0) (some 31) (some 31) (.v (.slice none 0 0)) v4) fun v5 H3 =>
 doQ (Zf 49 v1 6) fun v6 =>
 doW (Zg H3 31 v6 v5) fun v7 H4 =>
 doQ (Zb H4 49 v1) fun v8 =>
 doW (Zg H4 49 v2 v8) fun v9 H5 =>
 doQ (Zz H5 v2 49) fun v10 =>
 Q v10 H5
theorem iX(x0:AV)(H:Heap)(Q:AV→Heap→Prop)(h : ∀g,dw g x0 H Q):GoL env Try.f25 0 [.code fe] [(0,x0)] H Q:=⟨fun g=>bQ (live:=jk) (cut:=jx) (n:=500) (Eq.mp (by kernel_rfl) (h g))⟩
noncomputable def ff:Code:=(Try.f34.body).getD .skip
def jl:Nat→Option (List Nat):=fun i=>none
def jy:Nat→Bool:=fun i=>false
def fk(g:Nat→AV)(x0 x1:AV)(H:Heap)(Q:AV→Heap→Prop):Prop :=
 doW (Zc H 2 49 x0) fun v1 H1 =>
 doW (Zc H1 3 49 x1) fun v2 H2 =>
 doQ (Zf 49 v1 0) fun v3 =>
 doQ (Zb H2 5 v3) fun v4 =>
 doQ (Zf 49 v2 0) fun v5 =>
 doQ (Zb H2 5 v5) fun v6 =>
 doQ (Zi 5 6 8 v4 v6) fun v7 =>
 gQ v7 true (Zf 49 v1 1) fun v8 =>
 gQ v7 true (Zb H2 26 v8) fun v9 =>
 gQ v7 true (Zf 49 v2 1) fun v10 =>
 gQ v7 true (Zb H2 26 v10) fun v11 =>
 gQ v7 true (Zi 26 12 14 v9 v11) fun v12 =>
 doQ (Ze v7 v12) fun v13 =>
 gQ v13 true (Zf 49 v1 2) fun v14 =>
 gQ v13 true (Zb H2 3 v14) fun v15 =>
 gQ v13 true (Zf 49 v2 2) fun v16 =>
 gQ v13 true (Zb H2 3 v16) fun v17 =>
 gQ v13 true (Zi 3 19 21 v15 v17) fun v18 =>
 doQ (Ze v13 v18) fun v19 =>
 gQ v19 true (Zf 49 v1 3) fun v20 =>
 gQ v19 true (Zb H2 30 v20) fun v21 =>
 gQ v19 true (Zf 49 v2 3) fun v22 =>
 gQ v19 true (Zb H2 30 v22) fun v23 =>
 gQ v19 true (Zi 30 26 28 v21 v23) fun v24 =>
 doQ (Ze v19 v24) fun v25 =>
 gQ v25 true (Zf 49 v1 4) fun v26 =>
 gQ v25 true (Zb H2 28 v26) fun v27 =>
 gQ v25 true (Zf 49 v2 4) fun v28 =>
 gQ v25 true (Zb H2 28 v28) fun v29 =>
 gQ v25 true (Zi 28 33 35 v27 v29) fun v30 =>
 doQ (Ze v25 v30) fun v31 =>
 gQ v31 true (Zf 49 v1 5) fun v32 =>
 gQ v31 true (Zb H2 24 v32) fun v33 =>
 gQ v31 true (Zf 49 v2 5) fun v34 =>
 gQ v31 true (Zb H2 24 v34) fun v35 =>
 gQ v31 true (Zi 24 40 42 v33 v35) fun v36 =>
 doQ (Ze v31 v36) fun v37 =>
 gQ v37 true (Zf 49 v1 6) fun v38 =>
 gQ v37 true (Zb H2 31 v38) fun v39 =>
 gQ v37 true (Zf 49 v2 6) fun v40 =>
 gQ v37 true (Zb H2 31 v40) fun v41 =>
 gW v37 true H2 (Za true H2 50 87 [v39,v41]) fun v42 H3 =>
 doQ (Ze v37 v42) fun v43 =>
 Q v43 H3
theorem iY(x0 x1:AV)(H:Heap)(Q:AV→Heap→Prop)(h : ∀g,fk g x0 x1 H Q):GoL env Try.f34 0 [.code ff] [(0,x0),(1,x1)] H Q:=⟨fun g=>bQ (live:=jl) (cut:=jy) (n:=500) (Eq.mp (by kernel_rfl) (h g))⟩
noncomputable def gR:Code:=(Try.f23.body).getD .skip
def vR:Nat→Option (List Nat):=fun i=>none
def wA:Nat→Bool:=fun i=>false
def fg(g:Nat→AV)(x0:AV)(H:Heap)(Q:AV→Heap→Prop):Prop :=
 doW (Zc H 1 49 x0) fun v1 H1 =>
 doW (Zd H1 2 33) fun v2 H2 =>
 doQ (Zb H2 49 v1) fun v3 =>
 doW (Za true H2 7 80 [v3]) fun v4 H3 =>
 doQ (Zh 35 8 0 v4) fun v5 =>
 br (some v5) (
 doQ (Zx 33) fun v6 =>
 doW (Zg H3 33 v2 v6) fun v7 H4 =>
 doQ (Zz H4 v2 33) fun v8 =>
 Q (.tup [v8,v4]) H4) (
 doQ (Zf 49 v1 3) fun v6 =>
 doQ (Zb H3 30 v6) fun v7 =>
 doQ (Zf 49 v1 4) fun v8 =>
 doQ (Zb H3 28 v8) fun v9 =>
 doQ (Zf 49 v1 6) fun v10 =>
 doQ (Zb H3 31 v10) fun v11 =>
 doW (Za false H3 18 81 [v11]) fun v12 H4 =>
 doQ (ZH 33 0 v7 1 v9 2 v12) fun v13 =>
 doW (Zd H4 5 33) fun v14 H5 =>
 doW (Zg H5 33 v14 v13) fun v15 H6 =>
 doQ (Zf 49 v1 0) fun v16 =>
 doQ (Zb H6 5 v16) fun v17 =>
 doQ (qBin env.P .neq 5 (Operand.tmp 21) (.const (.int .u8 1)) (some v17) (some (a8 1))) fun v18 =>
 gQ v18 false (Zb H6 33 v14) fun v19 =>
 gW v18 false H6 (Za true H6 25 19 [v19]) fun v20 H7 =>
 gQ v18 false (Zh 35 25 0 v20) fun v21 =>
 doQ (Zj v18 v21) fun v22 =>
 br (some v22) (
 doQ (Zx 33) fun v23 =>
 doW (Zg H7 33 v2 v23) fun v24 H8 =>
 doQ (Zz H8 v2 33) fun v25 =>
 Q (.tup [v25,(.v (.int .i64 2))]) H8) (
 doQ (Zb H7 33 v14) fun v23 =>
 doW (Zg H7 33 v2 v23) fun v24 H8 =>
 doQ (Zz H8 v2 33) fun v25 =>
 Q (.tup [v25,(.v (.int .i64 0))]) H8))
theorem iB(x0:AV)(H:Heap)(Q:AV→Heap→Prop)(h : ∀g,fg g x0 H Q):GoL env Try.f23 0 [.code gR] [(0,x0)] H Q:=⟨fun g=>bQ (live:=vR) (cut:=wA) (n:=500) (Eq.mp (by kernel_rfl) (h g))⟩
noncomputable def dq:Code:=(Try.f24.body).getD .skip
def jf:Nat→Option (List Nat):=fun i=>none
def jr:Nat→Bool:=fun i=>false
def cy(g:Nat→AV)(x0:AV)(H:Heap)(Q:AV→Heap→Prop):Prop :=
 doW (Zc H 1 33 x0) fun v1 H1 =>
 doW (Zd H1 2 33) fun v2 H2 =>
 doQ (Zf 33 v1 2) fun v3 =>
 doQ (Zb H2 31 v3) fun v4 =>
 doW (fy env.P true H2 (Ref.mk 0 5 (Heap.gen H2 0 5) 0) (some 31) (some 31) (.v (.slice none 0 0)) v4) fun v5 H3 =>
 doQ (Zf 33 v1 2) fun v6 =>
 doW (Zg H3 31 v6 v5) fun v7 H4 =>
 doQ (Zb H4 33 v1) fun v8 =>
 doW (Zg H4 33 v2 v8) fun v9 H5 =>
 doQ (Zz H5 v2 33) fun v10 =>
 Q v10 H5
theorem eU(x0:AV)(H:Heap)(Q:AV→Heap→Prop)(h : ∀g,cy g x0 H Q):GoL env Try.f24 0 [.code dq] [(0,x0)] H Q:=⟨fun g=>bQ (live:=jf) (cut:=jr) (n:=500) (Eq.mp (by kernel_rfl) (h g))⟩
noncomputable def cm:Code:=(Try.f26.body).getD .skip
def j9:Nat→Option (List Nat):=fun i=>none
def ko:Nat→Bool:=fun i=>false
def cq(g:Nat→AV)(x0:AV)(H:Heap)(Q:AV→Heap→Prop):Prop :=
 doW (Zc H 1 49 x0) fun v1 H1 =>
 doW (Zd H1 2 33) fun v2 H2 =>
 doQ (Zb H2 49 v1) fun v3 =>
 doW (Za true H2 6 82 [v3]) fun v4 H3 =>
 doQ (Zy v4) fun v5 =>
 br (some v5) (
 doQ (Zx 33) fun v6 =>
 doW (Zg H3 33 v2 v6) fun v7 H4 =>
 doQ (Zz H4 v2 33) fun v8 =>
 Q (.tup [v8,(.v (.int .i64 8))]) H4) (
 doQ (Zf 49 v1 3) fun v6 =>
 doQ (Zb H3 30 v6) fun v7 =>
 doQ (Zf 49 v1 4) fun v8 =>
 doQ (Zb H3 28 v8) fun v9 =>
 doQ (Zf 49 v1 6) fun v10 =>
 doQ (Zb H3 31 v10) fun v11 =>
 doQ (ZH 33 0 v7 1 v9 2 v11) fun v12 =>
 doW (Zd H3 4 33) fun v13 H4 =>
 doW (Zg H4 33 v13 v12) fun v14 H5 =>
 doQ (Zf 49 v1 0) fun v15 =>
 doQ (Zb H5 5 v15) fun v16 =>
 doQ (qBin env.P .neq 5 (Operand.tmp 17) (.const (.int .u8 1)) (some v16) (some (a8 1))) fun v17 =>
 gQ v17 false (Zb H5 33 v13) fun v18 =>
 gW v17 false H5 (Za true H5 21 83 [v18]) fun v19 H6 =>
 gQ v17 false (Zy v19) fun v20 =>
 doQ (Zj v17 v20) fun v21 =>
 br (some v21) (
 doQ (Zx 33) fun v22 =>
 doW (Zg H6 33 v2 v22) fun v23 H7 =>
 doQ (Zz H7 v2 33) fun v24 =>
 Q (.tup [v24,(.v (.int .i64 2))]) H7) (
 doQ (Zb H6 33 v13) fun v22 =>
 doW (Za true H6 26 24 [v22]) fun v23 H7 =>
 doW (Zg H7 33 v2 v23) fun v24 H8 =>
 doQ (Zz H8 v2 33) fun v25 =>
 Q (.tup [v25,(.v (.int .i64 0))]) H8))
theorem cK(x0:AV)(H:Heap)(Q:AV→Heap→Prop)(h : ∀g,cq g x0 H Q):GoL env Try.f26 0 [.code cm] [(0,x0)] H Q:=⟨fun g=>bQ (live:=j9) (cut:=ko) (n:=500) (Eq.mp (by kernel_rfl) (h g))⟩
noncomputable def bY:Code:=(Try.f27.body).getD .skip
def jN:Nat→Option (List Nat):=fun i=>none
def jT:Nat→Bool:=fun i=>false
def bZ(g:Nat→AV)(x0 x1:AV)(H:Heap)(Q:AV→Heap→Prop):Prop :=
 doW (Zc H 2 33 x0) fun v1 H1 =>
 doW (Zd H1 4 33) fun v2 H2 =>
 doW (Zd H2 5 33) fun v3 H3 =>
 doQ (Zb H3 33 v1) fun v4 =>
 doW (Za true H3 8 83 [v4]) fun v5 H4 =>
 doQ (Zy v5) fun v6 =>
 br (some v6) (
 doQ (Zx 33) fun v7 =>
 doQ (Zx 33) fun v8 =>
 doW (Zg H4 33 v2 v7) fun v9 H5 =>
 doW (Zg H5 33 v3 v8) fun v10 H6 =>
 doQ (Zz H6 v2 33) fun v11 =>
 doQ (Zz H6 v3 33) fun v12 =>
 Q (.tup [v11,v12,(.v (.int .i64 8))]) H6) (
 doQ (Zp 3 12 1 x1) fun v7 =>
 gQ v7 false (ZA x1) fun v8 =>
 gQ v7 false (Zf 33 v1 0) fun v9 =>
 gQ v7 false (Zf 30 v9 1) fun v10 =>
 gQ v7 false (Zb H4 3 v10) fun v11 =>
 gQ v7 false (ZG 3 15 18 v8 v11) fun v12 =>
 doQ (Zj v7 v12) fun v13 =>
 br (some v13) (
 doQ (Zx 33) fun v14 =>
 doQ (Zx 33) fun v15 =>
 doW (Zg H4 33 v2 v14) fun v16 H5 =>
 doW (Zg H5 33 v3 v15) fun v17 H6 =>
 doQ (Zz H6 v2 33) fun v18 =>
 doQ (Zz H6 v3 33) fun v19 =>
 Q (.tup [v18,v19,(.v (.int .i64 2))]) H6) (
 doQ (Zb H4 33 v1) fun v14 =>
 doW (Za false H4 25 84 [v14,(.v (.int .i64 0)),x1]) fun v15 H5 =>
 doQ (Zb H5 33 v1) fun v16 =>
 doQ (Zf 33 v1 0) fun v17 =>
 doQ (Zf 30 v17 1) fun v18 =>
 doQ (Zb H5 3 v18) fun v19 =>
 doQ (ZF 3 30 31 v19 x1) fun v20 =>
 doW (Za false H5 33 84 [v16,x1,v20]) fun v21 H6 =>
 doW (Zg H6 33 v2 v15) fun v22 H7 =>
 doW (Zg H7 33 v3 v21) fun v23 H8 =>
 doQ (Zz H8 v2 33) fun v24 =>
 doQ (Zz H8 v3 33) fun v25 =>
 Q (.tup [v24,v25,(.v (.int .i64 0))]) H8))
theorem cH(x0 x1:AV)(H:Heap)(Q:AV→Heap→Prop)(h : ∀g,bZ g x0 x1 H Q):GoL env Try.f27 0 [.code bY] [(0,x0),(1,x1)] H Q:=⟨fun g=>bQ (live:=jN) (cut:=jT) (n:=500) (Eq.mp (by kernel_rfl) (h g))⟩
noncomputable def bk:Code:=(Try.f28.body).getD .skip
def ji:Nat→Option (List Nat):=fun i=>none
def jv:Nat→Bool:=fun i=>false
def bu(g:Nat→AV)(x0 x1:AV)(H:Heap)(Q:AV→Heap→Prop):Prop :=
 doW (Zc H 2 33 x0) fun v1 H1 =>
 doW (Zc H1 3 33 x1) fun v2 H2 =>
 doW (Zd H2 4 33) fun v3 H3 =>
 doQ (Zb H3 33 v1) fun v4 =>
 doW (Za true H3 8 83 [v4]) fun v5 H4 =>
 doQ (Zy v5) fun v6 =>
 gQ v6 false (Zb H4 33 v2) fun v7 =>
 gW v6 false H4 (Za true H4 12 83 [v7]) fun v8 H5 =>
 gQ v6 false (Zy v8) fun v9 =>
 doQ (Zj v6 v9) fun v10 =>
 br (some v10) (
 doQ (Zx 33) fun v11 =>
 doW (Zg H5 33 v3 v11) fun v12 H6 =>
 doQ (Zz H6 v3 33) fun v13 =>
 Q (.tup [v13,(.v (.int .i64 8))]) H6) (
 doQ (Zf 33 v2 0) fun v11 =>
 doQ (Zf 30 v11 0) fun v12 =>
 doQ (Zb H5 28 v12) fun v13 =>
 doQ (Zb H5 33 v1) fun v14 =>
 doQ (Zf 33 v1 0) fun v15 =>
 doQ (Zf 30 v15 1) fun v16 =>
 doQ (Zb H5 3 v16) fun v17 =>
 doW (Za false H5 23 85 [v14,v17]) fun v18 H6 =>
 doQ (Zu 28 18 23 v13 v18) fun v19 =>
 gQ v19 false (Zf 33 v2 1) fun v20 =>
 gQ v19 false (Zb H6 28 v20) fun v21 =>
 gQ v19 false (Zb H6 33 v1) fun v22 =>
 gQ v19 false (Zf 33 v1 0) fun v23 =>
 gQ v19 false (Zf 30 v23 1) fun v24 =>
 gQ v19 false (Zb H6 3 v24) fun v25 =>
 gQ v19 false (Zr 3 31 1 v25) fun v26 =>
 gW v19 false H6 (Za false H6 33 85 [v22,v26]) fun v27 H7 =>
 gQ v19 false (Zu 28 27 33 v21 v27) fun v28 =>
 doQ (Zj v19 v28) fun v29 =>
 gQ v29 false (Zf 33 v1 0) fun v30 =>
 gQ v29 false (Zf 30 v30 1) fun v31 =>
 gQ v29 false (Zb H7 3 v31) fun v32 =>
 gQ v29 false (Zf 33 v2 0) fun v33 =>
 gQ v29 false (Zf 30 v33 1) fun v34 =>
 gQ v29 false (Zb H7 3 v34) fun v35 =>
 gQ v29 false (Zw 3 39 42 v32 v35) fun v36 =>
 gQ v29 false (Zm 3 43 64 v36) fun v37 =>
 doQ (Zj v29 v37) fun v38 =>
 br (some v38) (
 doQ (Zx 33) fun v39 =>
 doW (Zg H7 33 v3 v39) fun v40 H8 =>
 doQ (Zz H8 v3 33) fun v41 =>
 Q (.tup [v41,(.v (.int .i64 2))]) H8) (
 doQ (Zb H7 33 v1) fun v39 =>
 doW (Za true H7 48 24 [v39]) fun v40 H8 =>
 doW (Zd H8 6 33) fun v41 H9 =>
 doW (Zg H9 33 v41 v40) fun v42 H10 =>
 doQ (Zf 33 v1 0) fun v43 =>
 doQ (Zf 30 v43 1) fun v44 =>
 doQ (Zb H10 3 v44) fun v45 =>
 doQ (Zf 33 v2 0) fun v46 =>
 doQ (Zf 30 v46 1) fun v47 =>
 doQ (Zb H10 3 v47) fun v48 =>
 doQ (Zw 3 51 54 v45 v48) fun v49 =>
 doQ (Zf 33 v41 0) fun v50 =>
 doQ (Zf 30 v50 1) fun v51 =>
 doW (Zg H10 3 v51 v49) fun v52 H11 =>
 doQ (Zf 33 v41 2) fun v53 =>
 doQ (Zb H11 31 v53) fun v54 =>
 doQ (Zf 33 v2 2) fun v55 =>
 doQ (Zb H11 31 v55) fun v56 =>
 doW (ZE H11 62 31 31 v54 v56) fun v57 H12 =>
 doQ (Zf 33 v41 2) fun v58 =>
 doW (Zg H12 31 v58 v57) fun v59 H13 =>
 doQ (Zb H13 33 v41) fun v60 =>
 doW (Zg H13 33 v3 v60) fun v61 H14 =>
 doQ (Zz H14 v3 33) fun v62 =>
 Q (.tup [v62,(.v (.int .i64 0))]) H14))
theorem bF(x0 x1:AV)(H:Heap)(Q:AV→Heap→Prop)(h : ∀g,bu g x0 x1 H Q):GoL env Try.f28 0 [.code bk] [(0,x0),(1,x1)] H Q:=⟨fun g=>bQ (live:=ji) (cut:=jv) (n:=500) (Eq.mp (by kernel_rfl) (h g))⟩
noncomputable def dO:Code:=(Try.f29.body).getD .skip
def ke:Nat→Option (List Nat):=fun i=>none
def kq:Nat→Bool:=fun i=>false
def bR(g:Nat→AV)(x0 x1:AV)(H:Heap)(Q:AV→Heap→Prop):Prop :=
 doW (Zc H 2 33 x0) fun v1 H1 =>
 doW (Zd H1 4 28) fun v2 H2 =>
 doW (Zd H2 5 28) fun v3 H3 =>
 doQ (Zb H3 33 v1) fun v4 =>
 doW (Za true H3 9 83 [v4]) fun v5 H4 =>
 doQ (Zy v5) fun v6 =>
 br (some v6) (
 doQ (Zx 28) fun v7 =>
 doQ (Zx 28) fun v8 =>
 doW (Zg H4 28 v2 v7) fun v9 H5 =>
 doW (Zg H5 28 v3 v8) fun v10 H6 =>
 doQ (Zz H6 v2 28) fun v11 =>
 doQ (Zz H6 v3 28) fun v12 =>
 Q (.tup [v11,v12,(.v (.int .i32 0)),(.v (.int .i64 8))]) H6) (
 doQ (Zp 3 13 0 x1) fun v7 =>
 gQ v7 false (ZA x1) fun v8 =>
 gQ v7 false (Zf 33 v1 0) fun v9 =>
 gQ v7 false (Zf 30 v9 1) fun v10 =>
 gQ v7 false (Zb H4 3 v10) fun v11 =>
 gQ v7 false (ZG 3 16 19 v8 v11) fun v12 =>
 doQ (Zj v7 v12) fun v13 =>
 br (some v13) (
 doQ (Zx 28) fun v14 =>
 doQ (Zx 28) fun v15 =>
 doW (Zg H4 28 v2 v14) fun v16 H5 =>
 doW (Zg H5 28 v3 v15) fun v17 H6 =>
 doQ (Zz H6 v2 28) fun v18 =>
 doQ (Zz H6 v3 28) fun v19 =>
 Q (.tup [v18,v19,(.v (.int .i32 0)),(.v (.int .i64 2))]) H6) (
 doQ (Zb H4 33 v1) fun v14 =>
 doW (Za false H4 26 85 [v14,x1]) fun v15 H5 =>
 doQ (Zb H5 33 v1) fun v16 =>
 doW (Za false H5 29 86 [v16,x1]) fun v17 H6 =>
 doQ (Zf 33 v1 2) fun v18 =>
 doQ (Zb H6 31 v18) fun v19 =>
 doQ (Zv H6 31 v19 x1) fun v20 =>
 doQ (Zb H6 21 v20) fun v21 =>
 doW (Zg H6 28 v2 v15) fun v22 H7 =>
 doW (Zg H7 28 v3 v17) fun v23 H8 =>
  jF [(v18,v2),(v19,v2),(v20,v2),(v18,v3),(v19,v3),(v20,v3)] [v2,v3] [] H8 ∧
 (doQ (Zz H8 v2 28) fun v24 =>
 doQ (Zz H8 v3 28) fun v25 =>
 Q (.tup [v24,v25,v21,(.v (.int .i64 0))]) H8)))
theorem fO(x0 x1:AV)(H:Heap)(Q:AV→Heap→Prop)(h : ∀g,bR g x0 x1 H Q):GoL env Try.f29 0 [.code dO] [(0,x0),(1,x1)] H Q:=⟨fun g=>bQ (live:=ke) (cut:=kq) (n:=500) (Eq.mp (by kernel_rfl) (h g))⟩
noncomputable def nI:Code:=(Try.f31.body).getD .skip
def rT:Nat→Option (List Nat):=fun i=>none
def sk:Nat→Bool:=fun i=>false
def jA(g:Nat→AV)(x0:AV)(H:Heap)(Q:AV→Heap→Prop):Prop :=
 doW (Zc H 1 33 x0) fun v1 H1 =>
 doW (Zd H1 2 33) fun v2 H2 =>
 doQ (Zf 33 v1 2) fun v3 =>
 doQ (Zb H2 31 v3) fun v4 =>
 doW (Za true H2 5 81 [v4]) fun v5 H3 =>
 doQ (Zf 33 v1 2) fun v6 =>
 doW (Zg H3 31 v6 v5) fun v7 H4 =>
 doQ (Zb H4 33 v1) fun v8 =>
 doW (Zg H4 33 v2 v8) fun v9 H5 =>
 doQ (Zz H5 v2 33) fun v10 =>
 Q v10 H5
theorem qP(x0:AV)(H:Heap)(Q:AV→Heap→Prop)(h : ∀g,jA g x0 H Q):GoL env Try.f31 0 [.code nI] [(0,x0)] H Q:=⟨fun g=>bQ (live:=rT) (cut:=sk) (n:=500) (Eq.mp (by kernel_rfl) (h g))⟩
noncomputable def eN:Code:=(Try.f32.body).getD .skip
def iM:Nat→Option (List Nat):=fun i=>none
def iP:Nat→Bool:=fun i=>false
def eO(g:Nat→AV)(x0:AV)(H:Heap)(Q:AV→Heap→Prop):Prop :=
 doW (Zc H 1 33 x0) fun v1 H1 =>
 doQ (Zb H1 33 v1) fun v2 =>
 doW (Za true H1 4 83 [v2]) fun v3 H2 =>
 doQ (Zy v3) fun v4 =>
 br (some v4) (
 Q (.v (.int .i64 8)) H2) (
 Q (.v (.int .i64 0)) H2)
theorem iC(x0:AV)(H:Heap)(Q:AV→Heap→Prop)(h : ∀g,eO g x0 H Q):GoL env Try.f32 0 [.code eN] [(0,x0)] H Q:=⟨fun g=>bQ (live:=iM) (cut:=iP) (n:=500) (Eq.mp (by kernel_rfl) (h g))⟩
noncomputable def c8:Code:=(Try.f33.body).getD .skip
noncomputable def bW:List Item:=(dp 2 400 [.code c8]).getD []
def eJ:Nat→Option (List Nat):=fun i=>cond (Nat.beq i 2) (some [2,1]) (none)
def eM:Nat→Bool:=fun i=>false
def eP(dep:Nat)(g:Nat→AV)(x0:AV)(H:Heap)(Q:AV→Heap→Prop):Prop :=
 doW (nRes H (⟨(dep+1),1,Heap.gen H (dep+1) 1,0⟩:Ref) (qBox env.P (⟨(dep+1),1,Heap.gen H (dep+1) 1,0⟩:Ref) 33 (some x0))) fun v1 H1 =>
  GoL env Try.f33 (dep+1) bW [(2,(.v (.int .i64 0))),(1,v1)] H1 Q
theorem iE(dep:Nat)(x0:AV)(H:Heap)(Q:AV→Heap→Prop)(h : ∀g,eP dep g x0 H Q):GoL env Try.f33 (dep+1) [.code c8] [(0,x0)] H Q:=⟨fun g=>bQ (live:=eJ) (cut:=eM) (n:=500) (Eq.mp (by kernel_rfl) (h g))⟩
def bX(dep:Nat)(g:Nat→AV)(x2 x1:AV)(H:Heap)(Q:AV→Heap→Prop):Prop :=
 doQ (Zf 33 x1 2) fun v1 =>
 doQ (Zb H 31 v1) fun v2 =>
 doQ (aX env.P false (Heap.get H) (⟨(dep+1),6,Heap.gen H (dep+1) 6,0⟩:Ref) .len #[31] [v2]) fun v3 =>
 doQ (Zt 3 3 6 x2 v3) fun v4 =>
 br (some v4) (
 doQ (Zf 33 x1 2) fun v5 =>
 doQ (Zb H 31 v5) fun v6 =>
 doQ (Zf 33 x1 2) fun v7 =>
 doQ (Zb H 31 v7) fun v8 =>
 doQ (Zv H 31 v8 x2) fun v9 =>
 doQ (Zb H 21 v9) fun v10 =>
 doQ (qBin env.P .add 21 (Operand.tmp 17) (.const (.int .i32 1)) (some v10) (some (.v (.int .i32 1)))) fun v11 =>
 doQ (Zv H 31 v6 x2) fun v12 =>
 doW (Zg H 21 v12 v11) fun v13 H1 =>
 doQ (Zq 3 8 1 x2) fun v14 =>
  GoL env Try.f33 (dep+1) bW [(2,v14),(1,x1)] H1 Q) (
 Q (.v (.tuple #[])) H)
theorem dU(dep:Nat)(x2 x1:AV)(H:Heap)(Q:AV→Heap→Prop)(h : ∀g,bX dep g x2 x1 H Q):GoL env Try.f33 (dep+1) bW [(2,x2),(1,x1)] H Q:=kN fun g=>bQ (live:=eJ) (cut:=eM) (n:=500) (Eq.mp (by kernel_rfl) (h g))
noncomputable def fu:Code:=(Try.f83.body).getD .skip
def jM:Nat→Option (List Nat):=fun i=>none
def jS:Nat→Bool:=fun i=>false
def bN(g:Nat→AV)(x0:AV)(H:Heap)(Q:AV→Heap→Prop):Prop :=
 doW (Zc H 1 33 x0) fun v1 H1 =>
 doQ (Zf 33 v1 0) fun v2 =>
 doQ (Zb H1 30 v2) fun v3 =>
 doW (Za true H1 5 119 [v3]) fun v4 H2 =>
 doQ (Zy v4) fun v5 =>
 gQ v5 false (Zf 33 v1 2) fun v6 =>
 gQ v5 false (Zb H2 31 v6) fun v7 =>
 gQ v5 false (Zl H2 10 31 v7) fun v8 =>
 gQ v5 false (Zf 33 v1 0) fun v9 =>
 gQ v5 false (Zf 30 v9 1) fun v10 =>
 gQ v5 false (Zb H2 3 v10) fun v11 =>
 gQ v5 false (Zu 3 10 13 v8 v11) fun v12 =>
 doQ (Zj v5 v12) fun v13 =>
 gQ v13 false (Zf 33 v1 2) fun v14 =>
 gQ v13 false (Zb H2 31 v14) fun v15 =>
 gW v13 false H2 (Za true H2 19 122 [v15]) fun v16 H3 =>
 gQ v13 false (Zh 3 19 0 v16) fun v17 =>
 doQ (Zj v13 v17) fun v18 =>
 br (some v18) (
 Q (.v (.bool false)) H3) (
 doQ (Zf 33 v1 1) fun v19 =>
 doQ (Zb H3 28 v19) fun v20 =>
 doW (Za true H3 24 124 [v20]) fun v21 H4 =>
 gQ v21 false (Zf 33 v1 1) fun v22 =>
 gQ v21 false (Zb H4 28 v22) fun v23 =>
 gW v21 false H4 (Za true H4 28 121 [v23]) fun v24 H5 =>
 gQ v21 false (ZA v24) fun v25 =>
 gQ v25 true (Zf 33 v1 1) fun v26 =>
 gQ v25 true (Zf 28 v26 1) fun v27 =>
 gQ v25 true (Zb H5 3 v27) fun v28 =>
 gQ v25 true (Zf 33 v1 0) fun v29 =>
 gQ v25 true (Zf 30 v29 0) fun v30 =>
 gQ v25 true (Zf 28 v30 1) fun v31 =>
 gQ v25 true (Zb H5 3 v31) fun v32 =>
 gQ v25 true (Zt 3 32 36 v28 v32) fun v33 =>
 gQ v21 false (Ze v25 v33) fun v34 =>
 doQ (Zj v21 v34) fun v35 =>
 Q v35 H5)
theorem jH(x0:AV)(H:Heap)(Q:AV→Heap→Prop)(h : ∀g,bN g x0 H Q):GoL env Try.f83 0 [.code fu] [(0,x0)] H Q:=⟨fun g=>bQ (live:=jM) (cut:=jS) (n:=500) (Eq.mp (by kernel_rfl) (h g))⟩
noncomputable def dt:Code:=(Try.f84.body).getD .skip
def jh:Nat→Option (List Nat):=fun i=>none
def ju:Nat→Bool:=fun i=>false
def dv(g:Nat→AV)(x0 x1 x2:AV)(H:Heap)(Q:AV→Heap→Prop):Prop :=
 doW (Zc H 3 33 x0) fun v1 H1 =>
 doW (Zd H1 6 33) fun v2 H2 =>
 doQ (Zb H2 33 v1) fun v3 =>
 doW (Za false H2 9 85 [v3,x1]) fun v4 H3 =>
 doQ (ZI 30 0 v4 1 x2) fun v5 =>
 doQ (Zb H3 33 v1) fun v6 =>
 doW (Za false H3 14 86 [v6,x1]) fun v7 H4 =>
 doQ (Zf 33 v1 2) fun v8 =>
 doQ (Zb H4 31 v8) fun v9 =>
 doQ (Zw 3 18 19 x1 x2) fun v10 =>
 doQ (eX env.P (Heap.get H4) 31 (some v9) (oi x1) (oi v10) (some none)) fun v11 =>
 doQ (ZH 33 0 v5 1 v7 2 v11) fun v12 =>
 doW (Za false H4 23 24 [v12]) fun v13 H5 =>
 doW (Zg H5 33 v2 v13) fun v14 H6 =>
 doQ (Zz H6 v2 33) fun v15 =>
 Q v15 H6
theorem eV(x0 x1 x2:AV)(H:Heap)(Q:AV→Heap→Prop)(h : ∀g,dv g x0 x1 x2 H Q):GoL env Try.f84 0 [.code dt] [(0,x0),(1,x1),(2,x2)] H Q:=⟨fun g=>bQ (live:=jh) (cut:=ju) (n:=500) (Eq.mp (by kernel_rfl) (h g))⟩
noncomputable def fW:Code:=(Try.f85.body).getD .skip
def kb:Nat→Option (List Nat):=fun i=>none
def kp:Nat→Bool:=fun i=>false
def fZ(g:Nat→AV)(x0 x1:AV)(H:Heap)(Q:AV→Heap→Prop):Prop :=
 doW (Zc H 2 33 x0) fun v1 H1 =>
 doW (Zd H1 4 28) fun v2 H2 =>
 doQ (Zf 33 v1 0) fun v3 =>
 doQ (Zf 30 v3 0) fun v4 =>
 doQ (Zf 28 v4 0) fun v5 =>
 doQ (Zb H2 26 v5) fun v6 =>
 doQ (Zf 33 v1 0) fun v7 =>
 doQ (Zf 30 v7 0) fun v8 =>
 doQ (Zf 28 v8 1) fun v9 =>
 doQ (Zb H2 3 v9) fun v10 =>
 doQ (Zw 3 12 13 v10 x1) fun v11 =>
 doQ (ZI 28 0 v6 1 v11) fun v12 =>
 doW (Zg H2 28 v2 v12) fun v13 H3 =>
 doQ (Zz H3 v2 28) fun v14 =>
 Q v14 H3
theorem jZ(x0 x1:AV)(H:Heap)(Q:AV→Heap→Prop)(h : ∀g,fZ g x0 x1 H Q):GoL env Try.f85 0 [.code fW] [(0,x0),(1,x1)] H Q:=⟨fun g=>bQ (live:=kb) (cut:=kp) (n:=500) (Eq.mp (by kernel_rfl) (h g))⟩
noncomputable def er:Code:=(Try.f86.body).getD .skip
def iq:Nat→Option (List Nat):=fun i=>none
def iw:Nat→Bool:=fun i=>false
def cR(g:Nat→AV)(x0 x1:AV)(H:Heap)(Q:AV→Heap→Prop):Prop :=
 doW (Zc H 2 33 x0) fun v1 H1 =>
 doW (Zd H1 4 28) fun v2 H2 =>
 doQ (Zk 3 5 0 x1) fun v3 =>
 br (some v3) (
 doQ (Zf 33 v1 1) fun v4 =>
 doQ (Zb H2 28 v4) fun v5 =>
 doW (Zg H2 28 v2 v5) fun v6 H3 =>
 doQ (Zz H3 v2 28) fun v7 =>
 Q v7 H3) (
 doQ (Zb H2 33 v1) fun v4 =>
 doQ (Zr 3 10 1 x1) fun v5 =>
 doW (Za true H2 12 85 [v4,v5]) fun v6 H3 =>
 doW (Zg H3 28 v2 v6) fun v7 H4 =>
 doQ (Zz H4 v2 28) fun v8 =>
 Q v8 H4)
theorem ij(x0 x1:AV)(H:Heap)(Q:AV→Heap→Prop)(h : ∀g,cR g x0 x1 H Q):GoL env Try.f86 0 [.code er] [(0,x0),(1,x1)] H Q:=⟨fun g=>bQ (live:=iq) (cut:=iw) (n:=500) (Eq.mp (by kernel_rfl) (h g))⟩
noncomputable def fa:Code:=(Try.f124.body).getD .skip
def je:Nat→Option (List Nat):=fun i=>none
def jq:Nat→Bool:=fun i=>false
def fh(g:Nat→AV)(x0:AV)(H:Heap)(Q:AV→Heap→Prop):Prop :=
 doW (Zc H 1 28 x0) fun v1 H1 =>
 doQ (Zb H1 28 v1) fun v2 =>
 doQ (Zx 28) fun v3 =>
 doQ (Zi 28 3 4 v2 v3) fun v4 =>
 Q v4 H1
theorem iU(x0:AV)(H:Heap)(Q:AV→Heap→Prop)(h : ∀g,fh g x0 H Q):GoL env Try.f124 0 [.code fa] [(0,x0)] H Q:=⟨fun g=>bQ (live:=je) (cut:=jq) (n:=500) (Eq.mp (by kernel_rfl) (h g))⟩
end Go.Proofs.Ytjampffmlnplcaa
