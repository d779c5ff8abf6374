/-
  What is to be shown of each function, computed from its code. No statement of a seat is proved here.
-/
import Derived.Test.YtdbiffjdomokfaaGreatAuTy
set_option linter.unusedVariables false
set_option maxRecDepth 1000000
namespace Go.Proofs.YtdbiffjdomokfaaGreat
open Go.Ab
noncomputable def pv:Code:=(Tryz.f8.body).getD .skip
def vf:Nat→Option (List Nat):=fun i=>none
def vw:Nat→Bool:=fun i=>false
def py(g:Nat→AV)(H:ab)(Q:AV→ab→Prop):Prop :=
 aO (zaj H 0 29) fun v1 H1 =>
 aO (zaa true H1 1 11 []) fun v2 H2 =>
 ak (zcq 40 v2 0) fun v3 =>
 ak (cK env.P 52 (some [(0,v3),(1,(.v (.bool true)))])) fun v4 =>
 aO (zax H2 4 26 1 0 v4) fun v5 H3 =>
 aO (zaa true H3 5 11 []) fun v6 H4 =>
 ak (zcq 40 v6 0) fun v7 =>
 ak (cK env.P 76 (some [(0,v7),(1,(.v (.int .i64 1))),(2,(.v (.int .i64 2))),(3,(.v (.int .i64 2)))])) fun v8 =>
 aO (zax H4 8 27 1 0 v8) fun v9 H5 =>
 ak (cK env.P 29 (some [(0,v5),(1,v9)])) fun v10 =>
 aO (zam H5 29 v1 v10) fun v11 H6 =>
 ak (zcn H6 v1 29) fun v12 =>
 Q v12 H6
theorem uS(H:ab)(Q:AV→ab→Prop)(h : ∀g,py g  H Q):bT env Tryz.f8 0 [.code pv] [] H Q:=⟨fun g=>aX (live:=vf) (cut:=vw) (n:=500) (Eq.mp (by kernel_rfl) (h g))⟩
noncomputable def oa:Code:=(Tryz.f9.body).getD .skip
def tD:Nat→Option (List Nat):=fun i=>none
def tJ:Nat→Bool:=fun i=>false
def ov(g:Nat→AV)(H:ab)(Q:AV→ab→Prop):Prop :=
 aO (zaa true H 1 11 []) fun v1 H1 =>
 ak (zcm 50 1 v1) fun v2 =>
 ak (cK env.P 56 (some [(0,(a8 1)),(2,v2)])) fun v3 =>
 aO (zaa true H1 4 24 [(.v (.int .i64 1)),(.v (.int .i64 1)),(.v (.int .i64 2)),(.v (.int .i64 0))]) fun v4 H2 =>
 aO (zaa true H2 5 24 [(.v (.int .i64 2)),(.v (.int .i64 3)),(.v (.int .i64 1)),(.v (.int .i64 9))]) fun v5 H3 =>
 aO (zbn H3 6 31 3 0 v3 1 v4 2 v5) fun v6 H4 =>
 Q v6 H4
theorem tj(H:ab)(Q:AV→ab→Prop)(h : ∀g,ov g  H Q):bT env Tryz.f9 0 [.code oa] [] H Q:=⟨fun g=>aX (live:=tD) (cut:=tJ) (n:=500) (Eq.mp (by kernel_rfl) (h g))⟩
noncomputable def pw:Code:=(Tryz.f11.body).getD .skip
def vg:Nat→Option (List Nat):=fun i=>none
def vx:Nat→Bool:=fun i=>false
def pz(g:Nat→AV)(H:ab)(Q:AV→ab→Prop):Prop :=
 aO (zaj H 0 40) fun v1 H1 =>
 ak (cK env.P 35 (some [(0,(a8 1))])) fun v2 =>
 ak (zcm 40 0 v2) fun v3 =>
 aO (zam H1 40 v1 v3) fun v4 H2 =>
 ak (zcn H2 v1 40) fun v5 =>
 Q v5 H2
theorem uT(H:ab)(Q:AV→ab→Prop)(h : ∀g,pz g  H Q):bT env Tryz.f11 0 [.code pw] [] H Q:=⟨fun g=>aX (live:=vg) (cut:=vx) (n:=500) (Eq.mp (by kernel_rfl) (h g))⟩
noncomputable def mF:Code:=(Tryz.f12.body).getD .skip
def rZ:Nat→Option (List Nat):=fun i=>none
def sd:Nat→Bool:=fun i=>false
def mI(g:Nat→AV)(H:ab)(Q:AV→ab→Prop):Prop :=
 aO (zaa true H 6 8 []) fun v1 H1 =>
 aO (zaa true H1 7 9 []) fun v2 H2 =>
 aO (zaa true H2 8 11 []) fun v3 H3 =>
 ak (zcq 40 v3 0) fun v4 =>
 aO (zaa true H3 10 10 [v1,v2,v4]) fun v5 H4 =>
 ak (zbb v5 0) fun v6 =>
 ak (zbb v5 1) fun v7 =>
 aO (zaa true H4 14 8 []) fun v8 H5 =>
 aO (zaa true H5 15 9 []) fun v9 H6 =>
 aO (zaa true H6 16 11 []) fun v10 H7 =>
 ak (zcq 40 v10 0) fun v11 =>
 aO (zaa true H7 18 7 [v8,v9,v11]) fun v12 H8 =>
 ak (zbb v12 0) fun v13 =>
 ak (zbb v12 1) fun v14 =>
 aO (zaj H8 3 22) fun v15 H9 =>
 aO (zam H9 22 v15 v13) fun v16 H10 =>
 ak (zai 23 21 0 v7) fun v17 =>
 gQ v17 true (zbj v6) fun v18 =>
 gW v17 true H10 (zaa true H10 25 11 []) fun v19 H11 =>
 gQ v17 true (zcm 67 0 v19) fun v20 =>
 gW v17 true H11 (zaa true H11 27 11 []) fun v21 H12 =>
 gQ v17 true (cK env.P 67 (some [(0,v21),(1,(.v (.int .i64 1)))])) fun v22 =>
 gW v17 true H12 (zaa true H12 29 11 []) fun v23 H13 =>
 gQ v17 true (cK env.P 67 (some [(0,v23),(1,(.v (.int .i64 2))),(2,(.v (.int .i64 9)))])) fun v24 =>
 gW v17 true H13 (zbn H13 31 36 3 0 v20 1 v22 2 v24) fun v25 H14 =>
 gW v17 true H14 (zaa true H14 32 17 [v18,v25]) fun v26 H15 =>
 ak (zag v17 v26) fun v27 =>
 gQ v27 true (zbj v14) fun v28 =>
 gQ v27 true (zai 23 35 0 v28) fun v29 =>
 ak (zag v27 v29) fun v30 =>
 gQ v30 true (zab H15 22 v15) fun v31 =>
 gQ v30 true (cK env.P 22 (some [(0,(.v (.int .i64 1))),(1,(.v (.int .i64 1))),(2,(.v (.int .i64 1))),(3,(.v (.int .i64 0)))])) fun v32 =>
 gQ v30 true (zap 22 39 40 v31 v32) fun v33 =>
 ak (zag v30 v33) fun v34 =>
 Q v34 H15
theorem rU(H:ab)(Q:AV→ab→Prop)(h : ∀g,mI g  H Q):bT env Tryz.f12 0 [.code mF] [] H Q:=⟨fun g=>aX (live:=rZ) (cut:=sd) (n:=500) (Eq.mp (by kernel_rfl) (h g))⟩
noncomputable def kG:Code:=(Tryz.f24.body).getD .skip
def tC:Nat→Option (List Nat):=fun i=>none
def tI:Nat→Bool:=fun i=>false
def kI(g:Nat→AV)(x0 x1 x2 x3:AV)(H:ab)(Q:AV→ab→Prop):Prop :=
 aO (zaj H 8 56) fun v1 H1 =>
 aO (zaa false H1 10 11 []) fun v2 H2 =>
 aO (zaa false H2 12 11 []) fun v3 H3 =>
 ak (cK env.P 45 (some [(0,v3),(1,x1)])) fun v4 =>
 ak (cK env.P 47 (some [(0,v4),(1,x2)])) fun v5 =>
 aO (bm H3 (Ref.mk 0 18 (ab.gen H3 0 18) 0) (u4 env.P (Ref.mk 0 18 (ab.gen H3 0 18) 0) 48 (some x2) (some x2))) fun v6 H4 =>
 ak (cK env.P 50 (some [(0,(a8 1)),(1,v2),(2,x0),(3,v5),(6,v6)])) fun v7 =>
 aO (zaj H4 9 50) fun v8 H5 =>
 aO (zam H5 50 v8 v7) fun v9 H6 =>
 ak (zab H6 50 v8) fun v10 =>
 ak (cK env.P 56 (some [(0,(a8 2)),(2,v10),(3,x3)])) fun v11 =>
 aO (zam H6 56 v1 v11) fun v12 H7 =>
 ak (zcn H7 v1 56) fun v13 =>
 Q v13 H7
theorem nE(x0 x1 x2 x3:AV)(H:ab)(Q:AV→ab→Prop)(h : ∀g,kI g x0 x1 x2 x3 H Q):bT env Tryz.f24 0 [.code kG] [(0,x0),(1,x1),(2,x2),(3,x3)] H Q:=⟨fun g=>aX (live:=tC) (cut:=tI) (n:=500) (Eq.mp (by kernel_rfl) (h g))⟩
end Go.Proofs.YtdbiffjdomokfaaGreat
