/-
  What is to be shown of each function, computed from its code. No statement of a seat is proved here.
-/
import Derived.Test.YtdbiffjdomokfaaGreatAuTy
set_option linter.unusedVariables false
set_option maxRecDepth 1000000
namespace Go.Proofs.YtdbiffjdomokfaaGreat
open Go.Ab
noncomputable def tM:Code:=(Tryz.f78.body).getD .skip
def Jr:Nat→Option (List Nat):=fun i=>none
def JQ:Nat→Bool:=fun i=>false
def tW(g:Nat→AV)(x0:AV)(H:ab)(Q:AV→ab→Prop):Prop :=
 aO (zac H 1 50 x0) fun v1 H1 =>
 aO (zaj H1 2 50) fun v2 H2 =>
 ak (zad 50 v1 6) fun v3 =>
 ak (zab H2 48 v3) fun v4 =>
 aO (zaa true H2 5 95 [v4]) fun v5 H3 =>
 ak (zad 50 v1 6) fun v6 =>
 aO (zam H3 48 v6 v5) fun v7 H4 =>
 ak (zab H4 50 v1) fun v8 =>
 aO (zam H4 50 v2 v8) fun v9 H5 =>
 ak (zcn H5 v2 50) fun v10 =>
 Q v10 H5
theorem xm(x0:AV)(H:ab)(Q:AV→ab→Prop)(h : ∀g,tW g x0 H Q):bT env Tryz.f78 0 [.code tM] [(0,x0)] H Q:=⟨fun g=>aX (live:=Jr) (cut:=JQ) (n:=500) (Eq.mp (by kernel_rfl) (h g))⟩
noncomputable def sX:Code:=(Tryz.f99.body).getD .skip
def LX:Nat→Option (List Nat):=fun i=>none
def Mh:Nat→Bool:=fun i=>false
def p9(g:Nat→AV)(x0:AV)(H:ab)(Q:AV→ab→Prop):Prop :=
 aO (zac H 1 50 x0) fun v1 H1 =>
 ak (zab H1 50 v1) fun v2 =>
 aO (zaa true H1 16 115 [v2]) fun v3 H2 =>
 ak (zaf 23 17 0 v3) fun v4 =>
 br (some v4) (
 Q (.tup [(.v (.slice none 0 0)),v3]) H2) (
 ak (zad 50 v1 1) fun v5 =>
 ak (zab H2 40 v5) fun v6 =>
 aO (zaa true H2 23 98 [v6]) fun v7 H3 =>
 ak (zbb v7 0) fun v8 =>
 ak (zbb v7 1) fun v9 =>
 ak (zad 50 v1 3) fun v10 =>
 ak (zad 47 v10 0) fun v11 =>
 ak (zab H3 45 v11) fun v12 =>
 aO (zaa true H3 30 119 [v12]) fun v13 H4 =>
 ak (zbb v13 0) fun v14 =>
 ak (zbb v13 1) fun v15 =>
 ak (zad 50 v1 0) fun v16 =>
 ak (zab H4 5 v16) fun v17 =>
 aO (zax H4 35 137 1 0 v17) fun v18 H5 =>
 ak (zad 50 v1 2) fun v19 =>
 ak (zab H5 3 v19) fun v20 =>
 ak (zcj 3 38 v20) fun v21 =>
 ak (zaw H5 40 3 5 v21) fun v22 =>
 ak (zad 50 v1 2) fun v23 =>
 ak (zab H5 3 v23) fun v24 =>
 ak (zbt 3 42 v24) fun v25 =>
 ak (zaw H5 44 3 5 v25) fun v26 =>
 ak (zad 50 v1 2) fun v27 =>
 ak (zab H5 3 v27) fun v28 =>
 ak (zaw H5 47 3 5 v28) fun v29 =>
 aO (zbn H5 48 137 3 0 v22 1 v26 2 v29) fun v30 H6 =>
 ak (zad 50 v1 3) fun v31 =>
 ak (zad 47 v31 1) fun v32 =>
 ak (zab H6 3 v32) fun v33 =>
 ak (zaw H6 53 3 5 v33) fun v34 =>
 aO (zax H6 54 137 1 0 v34) fun v35 H7 =>
 aO (fa env.P false true H7 (Ref.mk 0 55 (ab.gen H7 0 55) 0) 209 5 (some [(0,v18),(1,v8),(2,v30),(3,v14),(4,v35)])) fun v36 H8 =>
 aO (zaa true H8 56 120 [v36]) fun v37 H9 =>
 ak (zad 50 v1 0) fun v38 =>
 ak (zab H9 5 v38) fun v39 =>
 ak (zbk 5 58 v39) fun v40 =>
 br (some v40) (
 aO (bm H9 (Ref.mk 0 61 (ab.gen H9 0 61) 0) (u4 env.P (Ref.mk 0 61 (ab.gen H9 0 61) 0) 137 (some (AV.v (Value.int IntKind.i64 13))) (some (AV.v (Value.int IntKind.i64 13))))) fun v41 H10 =>
 ak (zad 50 v1 4) fun v42 =>
 ak (zab H10 45 v42) fun v43 =>
 ak (zch 45) fun v44 =>
 ak (zaz 45 63 64 v43 v44) fun v45 =>
 br (some v45) (
 ak (zad 50 v1 4) fun v46 =>
 ak (zab H10 45 v46) fun v47 =>
 aO (zaa true H10 69 119 [v47]) fun v48 H11 =>
 ak (zbb v48 0) fun v49 =>
 ak (zbb v48 1) fun v50 =>
 ak (zad 50 v1 6) fun v51 =>
 ak (zab H11 48 v51) fun v52 =>
 aO (zaa true H11 75 121 [v52]) fun v53 H12 =>
 ak (zbb v53 0) fun v54 =>
 ak (zbb v53 1) fun v55 =>
 aO (zbn H12 81 209 3 0 v37 1 v49 2 v54) fun v56 H13 =>
 aO (zaa true H13 82 120 [v56]) fun v57 H14 =>
 Q (.tup [v57,(.v (.int .i64 0))]) H14) (
 ak (zad 50 v1 6) fun v46 =>
 ak (zab H10 48 v46) fun v47 =>
 aO (zaa true H10 75 121 [v47]) fun v48 H11 =>
 ak (zbb v48 0) fun v49 =>
 ak (zbb v48 1) fun v50 =>
 aO (zbn H11 81 209 3 0 v37 1 v41 2 v49) fun v51 H12 =>
 aO (zaa true H12 82 120 [v51]) fun v52 H13 =>
 Q (.tup [v52,(.v (.int .i64 0))]) H13)) (
 ak (zbo 5 58 v39) fun v41 =>
 br (some v41) (
 ak (zad 50 v1 5) fun v42 =>
 ak (zab H9 35 v42) fun v43 =>
 ak (zcm 40 0 v43) fun v44 =>
 aO (zaa true H9 89 98 [v44]) fun v45 H10 =>
 ak (zbb v45 0) fun v46 =>
 ak (zbb v45 1) fun v47 =>
 ak (eQ env.P (ab.get H10) 137 (some v46) (some none) (oi (.v (.int .i64 5))) (some none)) fun v48 =>
 aO (zat H10 95 137 137 v37 v48) fun v49 H11 =>
 Q (.tup [v49,(.v (.int .i64 0))]) H11) (
 Q (.tup [v37,(.v (.int .i64 0))]) H9)))
theorem vV(x0:AV)(H:ab)(Q:AV→ab→Prop)(h : ∀g,p9 g x0 H Q):bT env Tryz.f99 0 [.code sX] [(0,x0)] H Q:=⟨fun g=>aX (live:=LX) (cut:=Mh) (n:=500) (Eq.mp (by kernel_rfl) (h g))⟩
noncomputable def AM:Code:=(Tryz.f100.body).getD .skip
def Ho:Nat→Option (List Nat):=fun i=>none
def Ih:Nat→Bool:=fun i=>false
def AQ(g:Nat→AV)(x0:AV)(H:ab)(Q:AV→ab→Prop):Prop :=
 aO (zac H 1 50 x0) fun v1 H1 =>
 ak (zad 50 v1 6) fun v2 =>
 ak (zab H1 48 v2) fun v3 =>
 aO (zaa true H1 5 122 [v3,(.v (.int .i32 (-1)))]) fun v4 H2 =>
 ak (zbg v4) fun v5 =>
 Q v5 H2
theorem Gs(x0:AV)(H:ab)(Q:AV→ab→Prop)(h : ∀g,AQ g x0 H Q):bT env Tryz.f100 0 [.code AM] [(0,x0)] H Q:=⟨fun g=>aX (live:=Ho) (cut:=Ih) (n:=500) (Eq.mp (by kernel_rfl) (h g))⟩
noncomputable def AN:Code:=(Tryz.f115.body).getD .skip
def Hp:Nat→Option (List Nat):=fun i=>none
def Ii:Nat→Bool:=fun i=>false
def iu(g:Nat→AV)(x0:AV)(H:ab)(Q:AV→ab→Prop):Prop :=
 aO (zac H 1 50 x0) fun v1 H1 =>
 ak (zad 50 v1 0) fun v2 =>
 ak (zab H1 5 v2) fun v3 =>
 ak (aE env.P .eql 5 (Operand.tmp 4) (.const (.int .u8 0)) (some v3) (some (a8 0))) fun v4 =>
 gQ v4 false (zad 50 v1 0) fun v5 =>
 gQ v4 false (zab H1 5 v5) fun v6 =>
 gQ v4 false (aE env.P .geq 5 (Operand.tmp 8) (.const (.int .u8 4)) (some v6) (some (a8 4))) fun v7 =>
 ak (zal v4 v7) fun v8 =>
 gQ v8 false (zad 50 v1 1) fun v9 =>
 gQ v8 false (zab H1 40 v9) fun v10 =>
 gW v8 false H1 (zaa false H1 14 117 [v10]) fun v11 H2 =>
 gQ v8 false (zaf 23 14 0 v11) fun v12 =>
 ak (zal v8 v12) fun v13 =>
 gQ v13 false (zad 50 v1 2) fun v14 =>
 gQ v13 false (zab H2 3 v14) fun v15 =>
 gQ v13 false (zas 3 19 1 v15) fun v16 =>
 ak (zal v13 v16) fun v17 =>
 gQ v17 false (zad 50 v1 2) fun v18 =>
 gQ v17 false (zab H2 3 v18) fun v19 =>
 gQ v17 false (zan 3 24 16777216 v19) fun v20 =>
 ak (zal v17 v20) fun v21 =>
 gQ v21 false (zad 50 v1 3) fun v22 =>
 gQ v21 false (zab H2 47 v22) fun v23 =>
 gW v21 false H2 (zaa false H2 30 131 [v23]) fun v24 H3 =>
 gQ v21 false (zaf 23 30 0 v24) fun v25 =>
 ak (zal v21 v25) fun v26 =>
 gW v26 false H3 (zaa false H3 34 132 []) fun v27 H4 =>
 gQ v26 false (zad 50 v1 0) fun v28 =>
 gQ v26 false (zab H4 5 v28) fun v29 =>
 gQ v26 false (nL env.P 203 (some v27) (some v29)) fun v30 =>
 gQ v26 false (zcq 202 v30 0) fun v31 =>
 gQ v26 false (zab H4 50 v1) fun v32 =>
 gW v26 false H4 (zbe H4 40 v31 v32) fun v33 H5 =>
 gQ v26 false (zbg v33) fun v34 =>
 ak (zal v26 v34) fun v35 =>
 br (some v35) (
 Q (.v (.int .i64 8)) H5) (
 Q (.v (.int .i64 0)) H5)
theorem Gt(x0:AV)(H:ab)(Q:AV→ab→Prop)(h : ∀g,iu g x0 H Q):bT env Tryz.f115 0 [.code AN] [(0,x0)] H Q:=⟨fun g=>aX (live:=Hp) (cut:=Ii) (n:=500) (Eq.mp (by kernel_rfl) (h g))⟩
noncomputable def C9:Code:=(Tryz.f123.body).getD .skip
def Js:Nat→Option (List Nat):=fun i=>none
def JR:Nat→Bool:=fun i=>false
def lL(g:Nat→AV)(x0 x1:AV)(H:ab)(Q:AV→ab→Prop):Prop :=
 aO (zac H 2 50 x0) fun v1 H1 =>
 aO (zac H1 3 50 x1) fun v2 H2 =>
 ak (zab H2 50 v1) fun v3 =>
 ak (zab H2 50 v2) fun v4 =>
 aO (zaj H2 5 50) fun v5 H3 =>
 aO (zaj H3 6 50) fun v6 H4 =>
 aO (zam H4 50 v5 v3) fun v7 H5 =>
 aO (zam H5 50 v6 v4) fun v8 H6 =>
  kH [(v2,v5)] [v5,v6] [] H6 ∧
 (ak (zad 50 v5 0) fun v9 =>
 ak (zab H6 5 v9) fun v10 =>
 ak (zad 50 v6 0) fun v11 =>
 ak (zab H6 5 v11) fun v12 =>
 ak (zap 5 10 12 v10 v12) fun v13 =>
 gQ v13 true (zad 50 v5 1) fun v14 =>
 gQ v13 true (zab H6 40 v14) fun v15 =>
 gQ v13 true (zad 50 v6 1) fun v16 =>
 gQ v13 true (zab H6 40 v16) fun v17 =>
 gQ v13 true (zap 40 16 18 v15 v17) fun v18 =>
 ak (zag v13 v18) fun v19 =>
 gQ v19 true (zad 50 v5 2) fun v20 =>
 gQ v19 true (zab H6 3 v20) fun v21 =>
 gQ v19 true (zad 50 v6 2) fun v22 =>
 gQ v19 true (zab H6 3 v22) fun v23 =>
 gQ v19 true (zap 3 23 25 v21 v23) fun v24 =>
 ak (zag v19 v24) fun v25 =>
 gQ v25 true (zad 50 v5 3) fun v26 =>
 gQ v25 true (zab H6 47 v26) fun v27 =>
 gQ v25 true (zad 50 v6 3) fun v28 =>
 gQ v25 true (zab H6 47 v28) fun v29 =>
 gQ v25 true (zap 47 30 32 v27 v29) fun v30 =>
 ak (zag v25 v30) fun v31 =>
 gQ v31 true (zad 50 v5 4) fun v32 =>
 gQ v31 true (zab H6 45 v32) fun v33 =>
 gQ v31 true (zad 50 v6 4) fun v34 =>
 gQ v31 true (zab H6 45 v34) fun v35 =>
 gQ v31 true (zap 45 37 39 v33 v35) fun v36 =>
 ak (zag v31 v36) fun v37 =>
 gQ v37 true (zad 50 v5 5) fun v38 =>
 gQ v37 true (zab H6 35 v38) fun v39 =>
 gQ v37 true (zad 50 v6 5) fun v40 =>
 gQ v37 true (zab H6 35 v40) fun v41 =>
 gQ v37 true (zap 35 44 46 v39 v41) fun v42 =>
 ak (zag v37 v42) fun v43 =>
 gQ v43 true (zad 50 v5 6) fun v44 =>
 gQ v43 true (zab H6 48 v44) fun v45 =>
 gQ v43 true (zad 50 v6 6) fun v46 =>
 gQ v43 true (zab H6 48 v46) fun v47 =>
 gW v43 true H6 (zaa true H6 54 141 [v45,v47]) fun v48 H7 =>
 ak (zag v43 v48) fun v49 =>
 Q v49 H7)
theorem IJ(x0 x1:AV)(H:ab)(Q:AV→ab→Prop)(h : ∀g,lL g x0 x1 H Q):bT env Tryz.f123 0 [.code C9] [(0,x0),(1,x1)] H Q:=⟨fun g=>aX (live:=Js) (cut:=JR) (n:=500) (Eq.mp (by kernel_rfl) (h g))⟩
noncomputable def xb:Code:=(Tryz.f146.body).getD .skip
def DR:Nat→Option (List Nat):=fun i=>none
def D2:Nat→Bool:=fun i=>false
def si(g:Nat→AV)(x0:AV)(H:ab)(Q:AV→ab→Prop):Prop :=
 aO (zac H 1 50 x0) fun v1 H1 =>
 ak (zad 50 v1 4) fun v2 =>
 ak (zab H1 45 v2) fun v3 =>
 ak (zch 45) fun v4 =>
 ak (zap 45 4 5 v3 v4) fun v5 =>
 gQ v5 true (zad 50 v1 6) fun v6 =>
 gQ v5 true (zab H1 48 v6) fun v7 =>
 gQ v5 true (zah H1 10 48 v7) fun v8 =>
 gQ v5 true (zai 3 10 0 v8) fun v9 =>
 ak (zag v5 v9) fun v10 =>
 Q v10 H1
theorem Du(x0:AV)(H:ab)(Q:AV→ab→Prop)(h : ∀g,si g x0 H Q):bT env Tryz.f146 0 [.code xb] [(0,x0)] H Q:=⟨fun g=>aX (live:=DR) (cut:=D2) (n:=500) (Eq.mp (by kernel_rfl) (h g))⟩
noncomputable def xa:Code:=(Tryz.f147.body).getD .skip
def DQ:Nat→Option (List Nat):=fun i=>none
def D1:Nat→Bool:=fun i=>false
def xj(g:Nat→AV)(x0:AV)(H:ab)(Q:AV→ab→Prop):Prop :=
 aO (zac H 1 50 x0) fun v1 H1 =>
 ak (zad 50 v1 5) fun v2 =>
 ak (zab H1 35 v2) fun v3 =>
 aO (zaa false H1 5 91 []) fun v4 H2 =>
 ak (zap 35 4 5 v3 v4) fun v5 =>
 Q v5 H2
theorem Dt(x0:AV)(H:ab)(Q:AV→ab→Prop)(h : ∀g,xj g x0 H Q):bT env Tryz.f147 0 [.code xa] [(0,x0)] H Q:=⟨fun g=>aX (live:=DQ) (cut:=D1) (n:=500) (Eq.mp (by kernel_rfl) (h g))⟩
noncomputable def w9:Code:=(Tryz.f148.body).getD .skip
def DP:Nat→Option (List Nat):=fun i=>none
def DZ:Nat→Bool:=fun i=>false
def gy(g:Nat→AV)(x0 x1:AV)(H:ab)(Q:AV→ab→Prop):Prop :=
 aO (zac H 2 50 x0) fun v1 H1 =>
 ak (zad 50 v1 4) fun v2 =>
 ak (zab H1 45 v2) fun v3 =>
 ak (zch 45) fun v4 =>
 ak (zap 45 6 7 v3 v4) fun v5 =>
 gQ v5 false (zad 50 v1 4) fun v6 =>
 gQ v5 false (zab H1 45 v6) fun v7 =>
 gW v5 false H1 (zaa true H1 12 137 [v7]) fun v8 H2 =>
 gQ v5 false (zai 23 12 0 v8) fun v9 =>
 ak (zal v5 v9) fun v10 =>
 ak (zab H2 112 x1) fun v11 =>
 ak (zab H2 50 v1) fun v12 =>
 aO (zbe H2 17 v11 v12) fun v13 H3 =>
 gQ v13 true (zbj v10) fun v14 =>
 ak (zag v13 v14) fun v15 =>
 gQ v15 true (zad 50 v1 3) fun v16 =>
 gQ v15 true (zad 47 v16 0) fun v17 =>
 gQ v15 true (zad 45 v17 0) fun v18 =>
 gQ v15 true (zab H3 40 v18) fun v19 =>
 gQ v15 true (zad 50 v1 1) fun v20 =>
 gQ v15 true (zab H3 40 v20) fun v21 =>
 gQ v15 true (zap 40 25 27 v19 v21) fun v22 =>
 ak (zag v15 v22) fun v23 =>
 gQ v23 true (zad 50 v1 6) fun v24 =>
 gQ v23 true (zab H3 48 v24) fun v25 =>
 gQ v23 true (zah H3 33 48 v25) fun v26 =>
 gQ v23 true (zad 50 v1 3) fun v27 =>
 gQ v23 true (zad 47 v27 1) fun v28 =>
 gQ v23 true (zab H3 3 v28) fun v29 =>
 gQ v23 true (zap 3 33 36 v26 v29) fun v30 =>
 ak (zag v23 v30) fun v31 =>
 gQ v31 true (zad 50 v1 6) fun v32 =>
 gQ v31 true (zab H3 48 v32) fun v33 =>
 gW v31 true H3 (zaa true H3 42 139 [v33]) fun v34 H4 =>
 gQ v31 true (zai 23 42 0 v34) fun v35 =>
 ak (zag v31 v35) fun v36 =>
 Q v36 H4
theorem Ds(x0 x1:AV)(H:ab)(Q:AV→ab→Prop)(h : ∀g,gy g x0 x1 H Q):bT env Tryz.f148 0 [.code w9] [(0,x0),(1,x1)] H Q:=⟨fun g=>aX (live:=DP) (cut:=DZ) (n:=500) (Eq.mp (by kernel_rfl) (h g))⟩
noncomputable def w8:Code:=(Tryz.f150.body).getD .skip
def DO:Nat→Option (List Nat):=fun i=>none
def DY:Nat→Bool:=fun i=>false
def xi(g:Nat→AV)(x0 x1 x2:AV)(H:ab)(Q:AV→ab→Prop):Prop :=
 aO (zac H 3 50 x0) fun v1 H1 =>
 ak (zab H1 112 x1) fun v2 =>
 ak (zab H1 50 v1) fun v3 =>
 aO (zbe H1 7 v2 v3) fun v4 H2 =>
 gQ v4 true (zab H2 112 x2) fun v5 =>
 gQ v4 true (zab H2 50 v1) fun v6 =>
 gW v4 true H2 (zbe H2 11 v5 v6) fun v7 H3 =>
 ak (zag v4 v7) fun v8 =>
 Q v8 H3
theorem Dr(x0 x1 x2:AV)(H:ab)(Q:AV→ab→Prop)(h : ∀g,xi g x0 x1 x2 H Q):bT env Tryz.f150 0 [.code w8] [(0,x0),(1,x1),(2,x2)] H Q:=⟨fun g=>aX (live:=DO) (cut:=DY) (n:=500) (Eq.mp (by kernel_rfl) (h g))⟩
noncomputable def w7:Code:=(Tryz.f152.body).getD .skip
def DN:Nat→Option (List Nat):=fun i=>none
def DX:Nat→Bool:=fun i=>false
def xg(g:Nat→AV)(x0 x1:AV)(H:ab)(Q:AV→ab→Prop):Prop :=
 aO (zac H 2 50 x0) fun v1 H1 =>
 ak (zab H1 112 x1) fun v2 =>
 ak (zab H1 50 v1) fun v3 =>
 aO (zbe H1 6 v2 v3) fun v4 H2 =>
 gQ v4 true (zad 50 v1 5) fun v5 =>
 gQ v4 true (zab H2 35 v5) fun v6 =>
 gW v4 true H2 (zaa true H2 10 33 [v6]) fun v7 H3 =>
 gQ v4 true (zai 23 10 0 v7) fun v8 =>
 ak (zag v4 v8) fun v9 =>
 Q v9 H3
theorem Dq(x0 x1:AV)(H:ab)(Q:AV→ab→Prop)(h : ∀g,xg g x0 x1 H Q):bT env Tryz.f152 0 [.code w7] [(0,x0),(1,x1)] H Q:=⟨fun g=>aX (live:=DN) (cut:=DX) (n:=500) (Eq.mp (by kernel_rfl) (h g))⟩
end Go.Proofs.YtdbiffjdomokfaaGreat
