/-
  What is to be shown of each function, computed from its code. No statement of a seat is proved here.
-/
import Derived.Test.YtdbiffjdomokfaaGreatAuTy
set_option linter.unusedVariables false
set_option maxRecDepth 1000000
namespace Go.Proofs.YtdbiffjdomokfaaGreat
open Go.Ab
noncomputable def gH:Code:=(Tryz.f6.body).getD .skip
noncomputable def cG:List Item:=(b7 15 400 [.code gH]).getD []
def ke:Nat→Option (List Nat):=fun i=>cond (Nat.beq i 15) (some [9,21,1,3,20,12,6,4]) (none)
def kf:Nat→Bool:=fun i=>false
def cC(g:Nat→AV)(x0 x1 x2 x3:AV)(H:ab)(Q:AV→ab→Prop):Prop :=
 aO (zac H 4 29 x0) fun v1 H1 =>
 aO (zac H1 6 35 x2) fun v2 H2 =>
 aO (zaa true H2 24 12 []) fun v3 H3 =>
 ak (zab H3 29 v1) fun v4 =>
 aO (zaa true H3 27 13 [v4,x1,(.v (.int .i64 25))]) fun v5 H4 =>
 gQ v5 false (zbj x3) fun v6 =>
 gQ v5 false (zah H4 30 48 v6) fun v7 =>
 gQ v5 false (zas 3 30 64 v7) fun v8 =>
 ak (zal v5 v8) fun v9 =>
 gQ v9 false (zbj v3) fun v10 =>
 gQ v9 false (zbg v10) fun v11 =>
 ak (zal v9 v11) fun v12 =>
 br (some v12) (
 Q v3 H4) (
 ak (zab H4 29 v1) fun v13 =>
 ak (zab H4 35 v2) fun v14 =>
 aO (zaa true H4 42 21 [v13,x1,v14]) fun v15 H5 =>
 ak (zbb v15 0) fun v16 =>
 ak (zbb v15 1) fun v17 =>
 ak (zaf 23 45 0 v17) fun v18 =>
 br (some v18) (
 Q v3 H5) (
 ak (zab H5 29 v1) fun v19 =>
 ak (zab H5 35 v2) fun v20 =>
 aO (zaa true H5 52 10 [v19,x1,v20]) fun v21 H6 =>
 ak (zbb v21 0) fun v22 =>
 ak (zbb v21 1) fun v23 =>
 ak (zab H6 29 v1) fun v24 =>
 ak (zab H6 35 v2) fun v25 =>
 aO (zaa true H6 59 10 [v24,v16,v25]) fun v26 H7 =>
 ak (zbb v26 0) fun v27 =>
 ak (zbb v26 1) fun v28 =>
 ak (zab H7 29 v1) fun v29 =>
 ak (zab H7 35 v2) fun v30 =>
 aO (zaa true H7 66 7 [v29,x1,v30]) fun v31 H8 =>
 ak (zbb v31 0) fun v32 =>
 ak (zbb v31 1) fun v33 =>
 aO (zaj H8 16 22) fun v34 H9 =>
 aO (zam H9 22 v34 v32) fun v35 H10 =>
 ak (zab H10 29 v1) fun v36 =>
 ak (zab H10 35 v2) fun v37 =>
 aO (zaa true H10 73 7 [v36,v16,v37]) fun v38 H11 =>
 ak (zbb v38 0) fun v39 =>
 ak (zbb v38 1) fun v40 =>
 aO (zaj H11 18 22) fun v41 H12 =>
 aO (zam H12 22 v41 v39) fun v42 H13 =>
 aO (zaa true H13 78 17 [v22,v27]) fun v43 H14 =>
 ak (zbg v43) fun v44 =>
 gQ v44 false (zbj v23) fun v45 =>
 gQ v44 false (zbj v28) fun v46 =>
 gQ v44 false (zaz 23 81 82 v45 v46) fun v47 =>
 ak (zal v44 v47) fun v48 =>
 gQ v48 false (zab H14 22 v34) fun v49 =>
 gQ v48 false (zab H14 22 v41) fun v50 =>
 gQ v48 false (zaz 22 86 87 v49 v50) fun v51 =>
 ak (zal v48 v51) fun v52 =>
 gQ v52 false (zbj v33) fun v53 =>
 gQ v52 false (zbj v40) fun v54 =>
 gQ v52 false (zaz 23 91 92 v53 v54) fun v55 =>
 ak (zal v52 v55) fun v56 =>
 br (some v56) (
 Q (.v (.bool false)) H14) (
 aO (
  cS env.P true H14 (Ref.mk 0 96 (ab.gen H14 0 96) 0) (some 31) (some 31) (.v (.slice none 0 0)) x1) fun v57 H15 =>
  bT env Tryz.f6 0 cG [(9,v3),(21,(.v (.int .i64 0))),(1,x1),(3,x3),(20,v57),(12,v22),(6,v2),(4,v1)] H15 Q)))
theorem pb(x0 x1 x2 x3:AV)(H:ab)(Q:AV→ab→Prop)(h : ∀g,cC g x0 x1 x2 x3 H Q):bT env Tryz.f6 0 [.code gH] [(0,x0),(1,x1),(2,x2),(3,x3)] H Q:=⟨fun g=>aX (live:=ke) (cut:=kf) (n:=500) (Eq.mp (by kernel_rfl) (h g))⟩
def cI(g:Nat→AV)(x9 x21 x1 x3 x20 x12 x6 x4:AV)(H:ab)(Q:AV→ab→Prop):Prop :=
 ak (zah H 99 31 x20) fun v1 =>
 ak (zao 3 97 99 x21 v1) fun v2 =>
 br (some v2) (
 ak (zau H 31 x1 x21) fun v3 =>
 ak (zad 56 v3 2) fun v4 =>
 ak (zad 50 v4 6) fun v5 =>
 ak (zab H 48 v5) fun v6 =>
 ak (zah H 109 48 v6) fun v7 =>
 ak (zah H 111 48 x3) fun v8 =>
 ak (zcl 3 109 111 v7 v8) fun v9 =>
 br (some v9) (
 Q x9 H) (
 ak (zau H 31 x1 x21) fun v10 =>
 ak (zad 56 v10 2) fun v11 =>
 ak (zad 50 v11 6) fun v12 =>
 ak (zab H 48 v12) fun v13 =>
 ak (zah H 123 48 v13) fun v14 =>
 ak (zbf H 48 x3 v14) fun v15 =>
 aO (cS env.P true H (Ref.mk 0 125 (ab.gen H 0 125) 0) (some 48) (some 48) (.v (.slice none 0 0)) v15) fun v16 H1 =>
 ak (zau H1 31 x20 x21) fun v17 =>
 ak (zad 56 v17 2) fun v18 =>
 ak (zad 50 v18 6) fun v19 =>
 aO (zam H1 48 v19 v16) fun v20 H2 =>
 ak (zae 3 101 1 x21) fun v21 =>
  bT env Tryz.f6 0 cG [(9,x9),(21,v21),(1,x1),(3,x3),(20,x20),(12,x12),(6,x6),(4,x4)] H2 Q)) (
 ak (zab H 29 x4) fun v3 =>
 aO (zaa true H 131 22 [v3,x20]) fun v4 H1 =>
 ak (zaf 23 131 0 v4) fun v5 =>
 br (some v5) (
 Q x9 H1) (
 ak (zab H1 29 x4) fun v6 =>
 ak (zab H1 35 x6) fun v7 =>
 aO (zaa true H1 138 10 [v6,x20,v7]) fun v8 H2 =>
 ak (zbb v8 0) fun v9 =>
 ak (zbb v8 1) fun v10 =>
 gQ x9 true (zbj v10) fun v11 =>
 gQ x9 true (zai 23 143 0 v11) fun v12 =>
 ak (zag x9 v12) fun v13 =>
 gQ v13 true (zbj v9) fun v14 =>
 gQ v13 true (zbj x12) fun v15 =>
 gW v13 true H2 (zaa true H2 149 17 [v14,v15]) fun v16 H3 =>
 ak (zag v13 v16) fun v17 =>
 Q v17 H3))
theorem fp(x9 x21 x1 x3 x20 x12 x6 x4:AV)(H:ab)(Q:AV→ab→Prop)(h : ∀g,cI g x9 x21 x1 x3 x20 x12 x6 x4 H Q):bT env Tryz.f6 0 cG [(9,x9),(21,x21),(1,x1),(3,x3),(20,x20),(12,x12),(6,x6),(4,x4)] H Q:=dx fun g=>aX (live:=ke) (cut:=kf) (n:=500) (Eq.mp (by kernel_rfl) (h g))
end Go.Proofs.YtdbiffjdomokfaaGreat
