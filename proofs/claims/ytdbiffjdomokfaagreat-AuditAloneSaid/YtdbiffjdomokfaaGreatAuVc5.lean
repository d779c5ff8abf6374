/-
  What is to be shown of each function, computed from its code. No statement of a seat is proved here.
-/
import Derived.Test.YtdbiffjdomokfaaGreatAuTy
set_option linter.unusedVariables false
set_option maxRecDepth 1000000
namespace Go.Proofs.YtdbiffjdomokfaaGreat
open Go.Ab
noncomputable def uq:Code:=(Tryz.f44.body).getD .skip
def A4:Nat→Option (List Nat):=fun i=>none
def Bb:Nat→Bool:=fun i=>false
def uB(g:Nat→AV)(x0:AV)(H:ab)(Q:AV→ab→Prop):Prop :=
 aO (zac H 1 56 x0) fun v1 H1 =>
 ak (zab H1 56 v1) fun v2 =>
 ak (zcm 140 0 v2) fun v3 =>
 aO (zaa true H1 8 82 [v3]) fun v4 H2 =>
 ak (zbb v4 0) fun v5 =>
 ak (zbb v4 1) fun v6 =>
 ak (zbg v6) fun v7 =>
 br (some v7) (
 Q (.v (.int .i64 8)) H2) (
 Q (.v (.int .i64 0)) H2)
theorem AS(x0:AV)(H:ab)(Q:AV→ab→Prop)(h : ∀g,uB g x0 H Q):bT env Tryz.f44 0 [.code uq] [(0,x0)] H Q:=⟨fun g=>aX (live:=A4) (cut:=Bb) (n:=500) (Eq.mp (by kernel_rfl) (h g))⟩
noncomputable def vD:Code:=(Tryz.f45.body).getD .skip
def Ci:Nat→Option (List Nat):=fun i=>none
def CT:Nat→Bool:=fun i=>false
def vM(g:Nat→AV)(x0:AV)(H:ab)(Q:AV→ab→Prop):Prop :=
 aO (zac H 1 56 x0) fun v1 H1 =>
 aO (zaj H1 2 56) fun v2 H2 =>
 ak (zad 56 v1 2) fun v3 =>
 ak (zab H2 50 v3) fun v4 =>
 aO (zaa true H2 5 78 [v4]) fun v5 H3 =>
 ak (zad 56 v1 2) fun v6 =>
 aO (zam H3 50 v6 v5) fun v7 H4 =>
 ak (zab H4 56 v1) fun v8 =>
 aO (zam H4 56 v2 v8) fun v9 H5 =>
 ak (zcn H5 v2 56) fun v10 =>
 Q v10 H5
theorem BA(x0:AV)(H:ab)(Q:AV→ab→Prop)(h : ∀g,vM g x0 H Q):bT env Tryz.f45 0 [.code vD] [(0,x0)] H Q:=⟨fun g=>aX (live:=Ci) (cut:=CT) (n:=500) (Eq.mp (by kernel_rfl) (h g))⟩
noncomputable def qE:Code:=(Tryz.f80.body).getD .skip
def Cs:Nat→Option (List Nat):=fun i=>none
def C3:Nat→Bool:=fun i=>false
def jU(g:Nat→AV)(x0 x1:AV)(H:ab)(Q:AV→ab→Prop):Prop :=
 aO (zac H 2 29 x0) fun v1 H1 =>
 aO (zac H1 3 54 x1) fun v2 H2 =>
 aO (zaj H2 4 29) fun v3 H3 =>
 ak (zab H3 29 v1) fun v4 =>
 aO (zaa false H3 11 41 [v4]) fun v5 H4 =>
 ak (zab H4 54 v2) fun v6 =>
 aO (zaa false H4 13 96 [v6]) fun v7 H5 =>
 ak (zci H5 14 23 23 v5 v7) fun v8 =>
 ak (zaf 23 15 0 v8) fun v9 =>
 br (some v9) (
 ak (zch 29) fun v10 =>
 aO (zam H5 29 v3 v10) fun v11 H6 =>
 ak (zcn H6 v3 29) fun v12 =>
 Q (.tup [v12,v8]) H6) (
 ak (zab H5 29 v1) fun v10 =>
 ak (zab H5 54 v2) fun v11 =>
 aO (zaa true H5 21 97 [v10,v11]) fun v12 H6 =>
 ak (o3 env.P (some v12) 29 true) fun v13 =>
 ak (zbb v13 0) fun v14 =>
 ak (zbb v13 1) fun v15 =>
 aO (zaj H6 8 29) fun v16 H7 =>
 aO (zam H7 29 v16 v14) fun v17 H8 =>
 br (some v15) (
 ak (zab H8 29 v16) fun v18 =>
 aO (zam H8 29 v3 v18) fun v19 H9 =>
 ak (zcn H9 v3 29) fun v20 =>
 Q (.tup [v20,(.v (.int .i64 0))]) H9) (
 ak (zch 29) fun v18 =>
 ak (o3 env.P (some v12) 23 false) fun v19 =>
 aO (zam H8 29 v3 v18) fun v20 H9 =>
 ak (zcn H9 v3 29) fun v21 =>
 Q (.tup [v21,v19]) H9))
theorem uP(x0 x1:AV)(H:ab)(Q:AV→ab→Prop)(h : ∀g,jU g x0 x1 H Q):bT env Tryz.f80 0 [.code qE] [(0,x0),(1,x1)] H Q:=⟨fun g=>aX (live:=Cs) (cut:=C3) (n:=500) (Eq.mp (by kernel_rfl) (h g))⟩
noncomputable def vJ:Code:=(Tryz.f96.body).getD .skip
def Cr:Nat→Option (List Nat):=fun i=>none
def C2:Nat→Bool:=fun i=>false
def qN(g:Nat→AV)(x0:AV)(H:ab)(Q:AV→ab→Prop):Prop :=
 aO (zac H 1 54 x0) fun v1 H1 =>
 ak (zad 54 v1 1) fun v2 =>
 ak (zad 52 v2 1) fun v3 =>
 ak (zab H1 4 v3) fun v4 =>
 gQ v4 false (zad 54 v1 1) fun v5 =>
 gQ v4 false (zad 52 v5 0) fun v6 =>
 gQ v4 false (zab H1 35 v6) fun v7 =>
 gW v4 false H1 (zaa false H1 11 91 []) fun v8 H2 =>
 gQ v4 false (zap 35 10 11 v7 v8) fun v9 =>
 ak (zal v4 v9) fun v10 =>
 ak (zad 54 v1 0) fun v11 =>
 ak (zab H2 3 v11) fun v12 =>
 ak (zas 3 15 0 v12) fun v13 =>
 gQ v13 false (zad 54 v1 0) fun v14 =>
 gQ v13 false (zab H2 3 v14) fun v15 =>
 gQ v13 false (zan 3 19 8 v15) fun v16 =>
 ak (zal v13 v16) fun v17 =>
 gQ v17 false (zad 54 v1 1) fun v18 =>
 gQ v17 false (zad 52 v18 0) fun v19 =>
 gQ v17 false (zab H2 35 v19) fun v20 =>
 gW v17 false H2 (zaa true H2 26 33 [v20]) fun v21 H3 =>
 gQ v17 false (zaf 23 26 0 v21) fun v22 =>
 ak (zal v17 v22) fun v23 =>
 gQ v23 false (zbj v10) fun v24 =>
 gQ v23 false (zbg v24) fun v25 =>
 ak (zal v23 v25) fun v26 =>
 br (some v26) (
 Q (.v (.int .i64 8)) H3) (
 Q (.v (.int .i64 0)) H3)
theorem BG(x0:AV)(H:ab)(Q:AV→ab→Prop)(h : ∀g,qN g x0 H Q):bT env Tryz.f96 0 [.code vJ] [(0,x0)] H Q:=⟨fun g=>aX (live:=Cr) (cut:=C2) (n:=500) (Eq.mp (by kernel_rfl) (h g))⟩
noncomputable def jO:Code:=(Tryz.f97.body).getD .skip
def Cq:Nat→Option (List Nat):=fun i=>none
def C1:Nat→Bool:=fun i=>false
def jT(g:Nat→AV)(x0 x1:AV)(H:ab)(Q:AV→ab→Prop):Prop :=
 aO (zac H 2 29 x0) fun v1 H1 =>
 aO (zac H1 3 54 x1) fun v2 H2 =>
 ak (zad 54 v2 0) fun v3 =>
 ak (zab H2 3 v3) fun v4 =>
 ak (zad 29 v1 0) fun v5 =>
 ak (zab H2 26 v5) fun v6 =>
 ak (zah H2 10 26 v6) fun v7 =>
 ak (zcf 3 7 10 v4 v7) fun v8 =>
 br (some v8) (
 ak (oL env.P 23 (some (AV.v (Value.int IntKind.i64 2)))) fun v9 =>
 Q v9 H2) (
 ak (zad 29 v1 2) fun v9 =>
 ak (zab H2 3 v9) fun v10 =>
 ak (zai 3 15 0 v10) fun v11 =>
 br (some v11) (
 ak (oL env.P 23 (some (AV.v (Value.int IntKind.i64 9)))) fun v12 =>
 Q v12 H2) (
 ak (zab H2 29 v1) fun v12 =>
 aO (zaa true H2 19 42 [v12]) fun v13 H3 =>
 aO (zam H3 29 v1 v13) fun v14 H4 =>
 ak (zad 29 v1 0) fun v15 =>
 ak (zab H4 26 v15) fun v16 =>
 ak (zad 54 v2 0) fun v17 =>
 ak (zab H4 3 v17) fun v18 =>
 ak (zad 54 v2 1) fun v19 =>
 ak (zab H4 52 v19) fun v20 =>
 ak (zau H4 26 v16 v18) fun v21 =>
 aO (zam H4 52 v21 v20) fun v22 H5 =>
 ak (zad 29 v1 2) fun v23 =>
 ak (zab H5 3 v23) fun v24 =>
 ak (zav 3 28 1 v24) fun v25 =>
 ak (zad 29 v1 2) fun v26 =>
 aO (zam H5 3 v26 v25) fun v27 H6 =>
 ak (zab H6 29 v1) fun v28 =>
 ak (oL env.P 29 (some v28)) fun v29 =>
 Q v29 H6))
theorem ly(x0 x1:AV)(H:ab)(Q:AV→ab→Prop)(h : ∀g,jT g x0 x1 H Q):bT env Tryz.f97 0 [.code jO] [(0,x0),(1,x1)] H Q:=⟨fun g=>aX (live:=Cq) (cut:=C1) (n:=500) (Eq.mp (by kernel_rfl) (h g))⟩
noncomputable def zn:Code:=(Tryz.f101.body).getD .skip
def FF:Nat→Option (List Nat):=fun i=>none
def F0:Nat→Bool:=fun i=>false
def tY(g:Nat→AV)(x0:AV)(H:ab)(Q:AV→ab→Prop):Prop :=
 aO (zac H 1 54 x0) fun v1 H1 =>
 ak (zab H1 54 v1) fun v2 =>
 aO (zaa true H1 9 96 [v2]) fun v3 H2 =>
 ak (zaf 23 10 0 v3) fun v4 =>
 br (some v4) (
 Q (.tup [(.v (.slice none 0 0)),v3]) H2) (
 ak (zad 54 v1 1) fun v5 =>
 ak (zad 52 v5 1) fun v6 =>
 ak (zab H2 4 v6) fun v7 =>
 br (some v7) (
 ak (zad 54 v1 1) fun v8 =>
 ak (zad 52 v8 0) fun v9 =>
 ak (zab H2 35 v9) fun v10 =>
 ak (zcm 40 0 v10) fun v11 =>
 aO (zaa true H2 21 98 [v11]) fun v12 H3 =>
 ak (zbb v12 0) fun v13 =>
 ak (zbb v12 1) fun v14 =>
 ak (zad 54 v1 0) fun v15 =>
 ak (zab H3 3 v15) fun v16 =>
 ak (zaw H3 26 3 5 v16) fun v17 =>
 aO (fa env.P true false H3 (Ref.mk 0 28 (ab.gen H3 0 28) 0) 137 2 (some [(0,v17),(1,(a8 1))])) fun v18 H4 =>
 ak (zah H4 31 137 v13) fun v19 =>
 ak (zav 3 31 1 v19) fun v20 =>
 ak (zbf H4 137 v13 v20) fun v21 =>
 aO (zat H4 34 137 137 v18 v21) fun v22 H5 =>
 Q (.tup [v22,v14]) H5) (
 ak (zad 54 v1 1) fun v8 =>
 ak (zad 52 v8 0) fun v9 =>
 ak (zab H2 35 v9) fun v10 =>
 ak (zcm 40 0 v10) fun v11 =>
 aO (zaa true H2 21 98 [v11]) fun v12 H3 =>
 ak (zbb v12 0) fun v13 =>
 ak (zbb v12 1) fun v14 =>
 ak (zad 54 v1 0) fun v15 =>
 ak (zab H3 3 v15) fun v16 =>
 ak (zaw H3 26 3 5 v16) fun v17 =>
 aO (fa env.P true false H3 (Ref.mk 0 28 (ab.gen H3 0 28) 0) 137 2 (some [(0,v17),(1,(a8 0))])) fun v18 H4 =>
 ak (zah H4 31 137 v13) fun v19 =>
 ak (zav 3 31 1 v19) fun v20 =>
 ak (zbf H4 137 v13 v20) fun v21 =>
 aO (zat H4 34 137 137 v18 v21) fun v22 H5 =>
 Q (.tup [v22,v14]) H5))
theorem Ff(x0:AV)(H:ab)(Q:AV→ab→Prop)(h : ∀g,tY g x0 H Q):bT env Tryz.f101 0 [.code zn] [(0,x0)] H Q:=⟨fun g=>aX (live:=FF) (cut:=F0) (n:=500) (Eq.mp (by kernel_rfl) (h g))⟩
noncomputable def vE:Code:=(Tryz.f102.body).getD .skip
def Cj:Nat→Option (List Nat):=fun i=>none
def CU:Nat→Bool:=fun i=>false
def jR(g:Nat→AV)(x0 x1:AV)(H:ab)(Q:AV→ab→Prop):Prop :=
 aO (zac H 2 56 x0) fun v1 H1 =>
 aO (zac H1 3 56 x1) fun v2 H2 =>
 ak (zad 56 v1 0) fun v3 =>
 ak (zab H2 5 v3) fun v4 =>
 ak (zad 56 v2 0) fun v5 =>
 ak (zab H2 5 v5) fun v6 =>
 ak (zap 5 6 8 v4 v6) fun v7 =>
 gQ v7 true (zad 56 v1 1) fun v8 =>
 gQ v7 true (zab H2 3 v8) fun v9 =>
 gQ v7 true (zad 56 v2 1) fun v10 =>
 gQ v7 true (zab H2 3 v10) fun v11 =>
 gQ v7 true (zap 3 12 14 v9 v11) fun v12 =>
 ak (zag v7 v12) fun v13 =>
 gQ v13 true (zad 56 v1 2) fun v14 =>
 gQ v13 true (zab H2 50 v14) fun v15 =>
 gQ v13 true (zad 56 v2 2) fun v16 =>
 gQ v13 true (zab H2 50 v16) fun v17 =>
 gW v13 true H2 (zaa true H2 22 123 [v15,v17]) fun v18 H3 =>
 ak (zag v13 v18) fun v19 =>
 gQ v19 true (zad 56 v1 3) fun v20 =>
 gQ v19 true (zab H3 23 v20) fun v21 =>
 gQ v19 true (zad 56 v2 3) fun v22 =>
 gQ v19 true (zab H3 23 v22) fun v23 =>
 gQ v19 true (zap 23 26 28 v21 v23) fun v24 =>
 ak (zag v19 v24) fun v25 =>
 gQ v25 true (zad 56 v1 4) fun v26 =>
 gQ v25 true (zab H3 54 v26) fun v27 =>
 gQ v25 true (zad 56 v2 4) fun v28 =>
 gQ v25 true (zab H3 54 v28) fun v29 =>
 gQ v25 true (zap 54 33 35 v27 v29) fun v30 =>
 ak (zag v25 v30) fun v31 =>
 Q v31 H3
theorem BB(x0 x1:AV)(H:ab)(Q:AV→ab→Prop)(h : ∀g,jR g x0 x1 H Q):bT env Tryz.f102 0 [.code vE] [(0,x0),(1,x1)] H Q:=⟨fun g=>aX (live:=Cj) (cut:=CU) (n:=500) (Eq.mp (by kernel_rfl) (h g))⟩
end Go.Proofs.YtdbiffjdomokfaaGreat
