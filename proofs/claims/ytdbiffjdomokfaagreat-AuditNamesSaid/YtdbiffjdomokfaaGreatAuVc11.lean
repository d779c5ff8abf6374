/-
  What is to be shown of each function, computed from its code. No statement of a seat is proved here.
-/
import Derived.Test.YtdbiffjdomokfaaGreatAuTy
set_option linter.unusedVariables false
set_option maxRecDepth 1000000
namespace Go.Proofs.YtdbiffjdomokfaaGreat
open Go.Ab
noncomputable def oE:Code:=(Tryz.f8.body).getD .skip
def tF:Nat→Option (List Nat):=fun i=>none
def tT:Nat→Bool:=fun i=>false
def oH(g:Nat→AV)(H:ab)(Q:AV→ab→Prop):Prop :=
 aN (Zi H 0 29) fun v1 H1 =>
 aN (Za true H1 1 11 []) fun v2 H2 =>
 ak (Y6 40 v2 0) fun v3 =>
 ak (cb env.P 52 (some [(0,v3),(1,(.v (.bool true)))])) fun v4 =>
 aN (Zx H2 4 26 1 0 v4) fun v5 H3 =>
 aN (Za true H3 5 11 []) fun v6 H4 =>
 ak (Y6 40 v6 0) fun v7 =>
 ak (cb env.P 76 (some [(0,v7),(1,(.v (.int .i64 1))),(2,(.v (.int .i64 2))),(3,(.v (.int .i64 2)))])) fun v8 =>
 aN (Zx H4 8 27 1 0 v8) fun v9 H5 =>
 ak (cb env.P 29 (some [(0,v5),(1,v9)])) fun v10 =>
 aN (Zl H5 29 v1 v10) fun v11 H6 =>
 ak (Y5 H6 v1 29) fun v12 =>
 Q v12 H6
theorem tn(H:ab)(Q:AV→ab→Prop)(h : ∀g,oH g  H Q):bW env Tryz.f8 0 [.code oE] [] H Q:=⟨fun g=>aY (live:=tF) (cut:=tT) (n:=500) (Eq.mp (by kernel_rfl) (h g))⟩
noncomputable def na:Code:=(Tryz.f9.body).getD .skip
def se:Nat→Option (List Nat):=fun i=>none
def sj:Nat→Bool:=fun i=>false
def nm(g:Nat→AV)(H:ab)(Q:AV→ab→Prop):Prop :=
 aN (Za true H 1 11 []) fun v1 H1 =>
 ak (Y3 50 1 v1) fun v2 =>
 ak (cb env.P 56 (some [(0,(a8 1)),(2,v2)])) fun v3 =>
 aN (Za true H1 4 24 [(.v (.int .i64 1)),(.v (.int .i64 1)),(.v (.int .i64 2)),(.v (.int .i64 0))]) fun v4 H2 =>
 aN (Za true H2 5 24 [(.v (.int .i64 2)),(.v (.int .i64 3)),(.v (.int .i64 1)),(.v (.int .i64 9))]) fun v5 H3 =>
 aN (ZM H3 6 31 3 0 v3 1 v4 2 v5) fun v6 H4 =>
 Q v6 H4
theorem rW(H:ab)(Q:AV→ab→Prop)(h : ∀g,nm g  H Q):bW env Tryz.f9 0 [.code na] [] H Q:=⟨fun g=>aY (live:=se) (cut:=sj) (n:=500) (Eq.mp (by kernel_rfl) (h g))⟩
noncomputable def oF:Code:=(Tryz.f11.body).getD .skip
def tG:Nat→Option (List Nat):=fun i=>none
def tU:Nat→Bool:=fun i=>false
def oI(g:Nat→AV)(H:ab)(Q:AV→ab→Prop):Prop :=
 aN (Zi H 0 40) fun v1 H1 =>
 ak (cb env.P 35 (some [(0,(a8 1))])) fun v2 =>
 ak (Y3 40 0 v2) fun v3 =>
 aN (Zl H1 40 v1 v3) fun v4 H2 =>
 ak (Y5 H2 v1 40) fun v5 =>
 Q v5 H2
theorem tp(H:ab)(Q:AV→ab→Prop)(h : ∀g,oI g  H Q):bW env Tryz.f11 0 [.code oF] [] H Q:=⟨fun g=>aY (live:=tG) (cut:=tU) (n:=500) (Eq.mp (by kernel_rfl) (h g))⟩
noncomputable def lO:Code:=(Tryz.f12.body).getD .skip
def qO:Nat→Option (List Nat):=fun i=>none
def qT:Nat→Bool:=fun i=>false
def lQ(g:Nat→AV)(H:ab)(Q:AV→ab→Prop):Prop :=
 aN (Za true H 6 8 []) fun v1 H1 =>
 aN (Za true H1 7 9 []) fun v2 H2 =>
 aN (Za true H2 8 11 []) fun v3 H3 =>
 ak (Y6 40 v3 0) fun v4 =>
 aN (Za true H3 10 10 [v1,v2,v4]) fun v5 H4 =>
 ak (ZB v5 0) fun v6 =>
 ak (ZB v5 1) fun v7 =>
 aN (Za true H4 14 8 []) fun v8 H5 =>
 aN (Za true H5 15 9 []) fun v9 H6 =>
 aN (Za true H6 16 11 []) fun v10 H7 =>
 ak (Y6 40 v10 0) fun v11 =>
 aN (Za true H7 18 7 [v8,v9,v11]) fun v12 H8 =>
 ak (ZB v12 0) fun v13 =>
 ak (ZB v12 1) fun v14 =>
 aN (Zi H8 3 22) fun v15 H9 =>
 aN (Zl H9 22 v15 v13) fun v16 H10 =>
 ak (Zg 23 21 0 v7) fun v17 =>
 gQ v17 true (ZN v6) fun v18 =>
 gW v17 true H10 (Za true H10 25 11 []) fun v19 H11 =>
 gQ v17 true (Y3 67 0 v19) fun v20 =>
 gW v17 true H11 (Za true H11 27 11 []) fun v21 H12 =>
 gQ v17 true (cb env.P 67 (some [(0,v21),(1,(.v (.int .i64 1)))])) fun v22 =>
 gW v17 true H12 (Za true H12 29 11 []) fun v23 H13 =>
 gQ v17 true (cb env.P 67 (some [(0,v23),(1,(.v (.int .i64 2))),(2,(.v (.int .i64 9)))])) fun v24 =>
 gW v17 true H13 (ZM H13 31 36 3 0 v20 1 v22 2 v24) fun v25 H14 =>
 gW v17 true H14 (Za true H14 32 17 [v18,v25]) fun v26 H15 =>
 ak (Zh v17 v26) fun v27 =>
 gQ v27 true (ZN v14) fun v28 =>
 gQ v27 true (Zg 23 35 0 v28) fun v29 =>
 ak (Zh v27 v29) fun v30 =>
 gQ v30 true (Zb H15 22 v15) fun v31 =>
 gQ v30 true (cb env.P 22 (some [(0,(.v (.int .i64 1))),(1,(.v (.int .i64 1))),(2,(.v (.int .i64 1))),(3,(.v (.int .i64 0)))])) fun v32 =>
 gQ v30 true (Zp 22 39 40 v31 v32) fun v33 =>
 ak (Zh v30 v33) fun v34 =>
 Q v34 H15
theorem qK(H:ab)(Q:AV→ab→Prop)(h : ∀g,lQ g  H Q):bW env Tryz.f12 0 [.code lO] [] H Q:=⟨fun g=>aY (live:=qO) (cut:=qT) (n:=500) (Eq.mp (by kernel_rfl) (h g))⟩
noncomputable def jR:Code:=(Tryz.f24.body).getD .skip
def sd:Nat→Option (List Nat):=fun i=>none
def si:Nat→Bool:=fun i=>false
def jT(g:Nat→AV)(x0 x1 x2 x3:AV)(H:ab)(Q:AV→ab→Prop):Prop :=
 aN (Zi H 8 56) fun v1 H1 =>
 aN (Za false H1 10 11 []) fun v2 H2 =>
 aN (Za false H2 12 11 []) fun v3 H3 =>
 ak (cb env.P 45 (some [(0,v3),(1,x1)])) fun v4 =>
 ak (cb env.P 47 (some [(0,v4),(1,x2)])) fun v5 =>
 aN (bn H3 (Ref.mk 0 18 (ab.gen H3 0 18) 0) (tz env.P (Ref.mk 0 18 (ab.gen H3 0 18) 0) 48 (some x2) (some x2))) fun v6 H4 =>
 ak (cb env.P 50 (some [(0,(a8 1)),(1,v2),(2,x0),(3,v5),(6,v6)])) fun v7 =>
 aN (Zi H4 9 50) fun v8 H5 =>
 aN (Zl H5 50 v8 v7) fun v9 H6 =>
 ak (Zb H6 50 v8) fun v10 =>
 ak (cb env.P 56 (some [(0,(a8 2)),(2,v10),(3,x3)])) fun v11 =>
 aN (Zl H6 56 v1 v11) fun v12 H7 =>
 ak (Y5 H7 v1 56) fun v13 =>
 Q v13 H7
theorem mN(x0 x1 x2 x3:AV)(H:ab)(Q:AV→ab→Prop)(h : ∀g,jT g x0 x1 x2 x3 H Q):bW env Tryz.f24 0 [.code jR] [(0,x0),(1,x1),(2,x2),(3,x3)] H Q:=⟨fun g=>aY (live:=sd) (cut:=si) (n:=500) (Eq.mp (by kernel_rfl) (h g))⟩
end Go.Proofs.YtdbiffjdomokfaaGreat
