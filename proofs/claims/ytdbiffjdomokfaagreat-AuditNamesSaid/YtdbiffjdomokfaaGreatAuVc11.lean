/-
  What is to be shown of each function, computed from its code. No statement of a seat is proved here.
-/
import Derived.Test.YtdbiffjdomokfaaGreatAuTy
set_option linter.unusedVariables false
set_option maxRecDepth 1000000
namespace Go.Proofs.YtdbiffjdomokfaaGreat
open Go.Ab
local notation:max "©" b:max h:max n:max f:max a:max=>bm env b (bj env) (bR env 0) h (Ref.mk 0 n (ab.gen h 0 n) 0) (some (AV.fn (Fn.func f) [] [])) a
local notation:max "§" h:max n:max=>Ref.mk 0 n (ab.gen h 0 n) 0
local notation:max "~" a:max=>some a
local notation:max "¥" h:max=>ab.get h
local notation:max "¤" n:max=>(Operand.const (Value.int IntKind.i64 n))
local notation:max "£" n:max=>some (AV.v (Value.int IntKind.i64 n))
local notation:max "¿" => some (AV.v (Value.bool false))
local notation:max "°" n:max=>(Operand.tmp n)
local notation:max "¢" => env.P
noncomputable def oE:Code:=(Tryz.f8.body).getD .skip
def tF:Nat→Option (List Nat):=fun i=>none
def tT:Nat→Bool:=fun i=>false
def oH(g:Nat→AV)(H:ab)(Q:AV→ab→Prop):Prop :=
 aN (bn H §H 0 (bV ¢ §H 0 29)) fun v1 H1 =>
 aN (©true H1 1 11 []) fun v2 H2 =>
 ak (ke ¢ 40 ~v2 0) fun v3 =>
 ak (cb ¢ 52 (some [(0,v3),(1,(.v (.bool true)))])) fun v4 =>
 aN (eO ¢ false true H2 §H2 4 26 1 (some [(0,v4)])) fun v5 H3 =>
 aN (©true H3 5 11 []) fun v6 H4 =>
 ak (ke ¢ 40 ~v6 0) fun v7 =>
 ak (cb ¢ 76 (some [(0,v7),(1,(.v (.int .i64 1))),(2,(.v (.int .i64 2))),(3,(.v (.int .i64 2)))])) fun v8 =>
 aN (eO ¢ false true H4 §H4 8 27 1 (some [(0,v8)])) fun v9 H5 =>
 ak (cb ¢ 29 (some [(0,v5),(1,v9)])) fun v10 =>
 aN (aV ¢ H5 29 ~v1 ~v10) fun v11 H6 =>
 ak (da ¢ H6 v1 29) fun v12 =>
 Q v12 H6
theorem tn(H:ab)(Q:AV→ab→Prop)(h : ∀g,oH g  H Q):bW env Tryz.f8 0 [.code oE] [] H Q:=⟨fun g=>aY (live:=tF) (cut:=tT) (n:=500) (Eq.mp (by kernel_rfl) (h g))⟩
noncomputable def na:Code:=(Tryz.f9.body).getD .skip
def se:Nat→Option (List Nat):=fun i=>none
def sj:Nat→Bool:=fun i=>false
def nm(g:Nat→AV)(H:ab)(Q:AV→ab→Prop):Prop :=
 aN (©true H 1 11 []) fun v1 H1 =>
 ak (cb ¢ 50 (some [(1,v1)])) fun v2 =>
 ak (cb ¢ 56 (some [(0,(a8 1)),(2,v2)])) fun v3 =>
 aN (©true H1 4 24 [(.v (.int .i64 1)),(.v (.int .i64 1)),(.v (.int .i64 2)),(.v (.int .i64 0))]) fun v4 H2 =>
 aN (©true H2 5 24 [(.v (.int .i64 2)),(.v (.int .i64 3)),(.v (.int .i64 1)),(.v (.int .i64 9))]) fun v5 H3 =>
 aN (eO ¢ false true H3 §H3 6 31 3 (some [(0,v3),(1,v4),(2,v5)])) fun v6 H4 =>
 Q v6 H4
theorem rW(H:ab)(Q:AV→ab→Prop)(h : ∀g,nm g  H Q):bW env Tryz.f9 0 [.code na] [] H Q:=⟨fun g=>aY (live:=se) (cut:=sj) (n:=500) (Eq.mp (by kernel_rfl) (h g))⟩
noncomputable def oF:Code:=(Tryz.f11.body).getD .skip
def tG:Nat→Option (List Nat):=fun i=>none
def tU:Nat→Bool:=fun i=>false
def oI(g:Nat→AV)(H:ab)(Q:AV→ab→Prop):Prop :=
 aN (bn H §H 0 (bV ¢ §H 0 40)) fun v1 H1 =>
 ak (cb ¢ 35 (some [(0,(a8 1))])) fun v2 =>
 ak (cb ¢ 40 (some [(0,v2)])) fun v3 =>
 aN (aV ¢ H1 40 ~v1 ~v3) fun v4 H2 =>
 ak (da ¢ H2 v1 40) fun v5 =>
 Q v5 H2
theorem tp(H:ab)(Q:AV→ab→Prop)(h : ∀g,oI g  H Q):bW env Tryz.f11 0 [.code oF] [] H Q:=⟨fun g=>aY (live:=tG) (cut:=tU) (n:=500) (Eq.mp (by kernel_rfl) (h g))⟩
noncomputable def lO:Code:=(Tryz.f12.body).getD .skip
def qO:Nat→Option (List Nat):=fun i=>none
def qT:Nat→Bool:=fun i=>false
def lQ(g:Nat→AV)(H:ab)(Q:AV→ab→Prop):Prop :=
 aN (©true H 6 8 []) fun v1 H1 =>
 aN (©true H1 7 9 []) fun v2 H2 =>
 aN (©true H2 8 11 []) fun v3 H3 =>
 ak (ke ¢ 40 ~v3 0) fun v4 =>
 aN (©true H3 10 10 [v1,v2,v4]) fun v5 H4 =>
 ak (aH ~v5 0) fun v6 =>
 ak (aH ~v5 1) fun v7 =>
 aN (©true H4 14 8 []) fun v8 H5 =>
 aN (©true H5 15 9 []) fun v9 H6 =>
 aN (©true H6 16 11 []) fun v10 H7 =>
 ak (ke ¢ 40 ~v10 0) fun v11 =>
 aN (©true H7 18 7 [v8,v9,v11]) fun v12 H8 =>
 ak (aH ~v12 0) fun v13 =>
 ak (aH ~v12 1) fun v14 =>
 aN (bn H8 §H8 3 (bV ¢ §H8 3 22)) fun v15 H9 =>
 aN (aV ¢ H9 22 ~v15 ~v13) fun v16 H10 =>
 ak (aE ¢ .eql 23 °21 ¤0 ~v7 £0) fun v17 =>
 gQ v17 true (cJ ~v6) fun v18 =>
 gW v17 true H10 (©true H10 25 11 []) fun v19 H11 =>
 gQ v17 true (cb ¢ 67 (some [(0,v19)])) fun v20 =>
 gW v17 true H11 (©true H11 27 11 []) fun v21 H12 =>
 gQ v17 true (cb ¢ 67 (some [(0,v21),(1,(.v (.int .i64 1)))])) fun v22 =>
 gW v17 true H12 (©true H12 29 11 []) fun v23 H13 =>
 gQ v17 true (cb ¢ 67 (some [(0,v23),(1,(.v (.int .i64 2))),(2,(.v (.int .i64 9)))])) fun v24 =>
 gW v17 true H13 (eO ¢ false true H13 §H13 31 36 3 (some [(0,v20),(1,v22),(2,v24)])) fun v25 H14 =>
 gW v17 true H14 (©true H14 32 17 [v18,v25]) fun v26 H15 =>
 ak (bp ~v17 ~v26 ¿) fun v27 =>
 gQ v27 true (cJ ~v14) fun v28 =>
 gQ v27 true (aE ¢ .eql 23 °35 ¤0 ~v28 £0) fun v29 =>
 ak (bp ~v27 ~v29 ¿) fun v30 =>
 gQ v30 true (aj ¢ ¥H15 22 ~v15) fun v31 =>
 gQ v30 true (cb ¢ 22 (some [(0,(.v (.int .i64 1))),(1,(.v (.int .i64 1))),(2,(.v (.int .i64 1))),(3,(.v (.int .i64 0)))])) fun v32 =>
 gQ v30 true (aE ¢ .eql 22 °39 °40 ~v31 ~v32) fun v33 =>
 ak (bp ~v30 ~v33 ¿) fun v34 =>
 Q v34 H15
theorem qK(H:ab)(Q:AV→ab→Prop)(h : ∀g,lQ g  H Q):bW env Tryz.f12 0 [.code lO] [] H Q:=⟨fun g=>aY (live:=qO) (cut:=qT) (n:=500) (Eq.mp (by kernel_rfl) (h g))⟩
noncomputable def jR:Code:=(Tryz.f24.body).getD .skip
def sd:Nat→Option (List Nat):=fun i=>none
def si:Nat→Bool:=fun i=>false
def jT(g:Nat→AV)(x0 x1 x2 x3:AV)(H:ab)(Q:AV→ab→Prop):Prop :=
 aN (bn H §H 8 (bV ¢ §H 8 56)) fun v1 H1 =>
 aN (©false H1 10 11 []) fun v2 H2 =>
 aN (©false H2 12 11 []) fun v3 H3 =>
 ak (cb ¢ 45 (some [(0,v3),(1,x1)])) fun v4 =>
 ak (cb ¢ 47 (some [(0,v4),(1,x2)])) fun v5 =>
 aN (bn H3 §H3 18 (tz ¢ §H3 18 48 ~x2 ~x2)) fun v6 H4 =>
 ak (cb ¢ 50 (some [(0,(a8 1)),(1,v2),(2,x0),(3,v5),(6,v6)])) fun v7 =>
 aN (bn H4 §H4 9 (bV ¢ §H4 9 50)) fun v8 H5 =>
 aN (aV ¢ H5 50 ~v8 ~v7) fun v9 H6 =>
 ak (aj ¢ ¥H6 50 ~v8) fun v10 =>
 ak (cb ¢ 56 (some [(0,(a8 2)),(2,v10),(3,x3)])) fun v11 =>
 aN (aV ¢ H6 56 ~v1 ~v11) fun v12 H7 =>
 ak (da ¢ H7 v1 56) fun v13 =>
 Q v13 H7
theorem mN(x0 x1 x2 x3:AV)(H:ab)(Q:AV→ab→Prop)(h : ∀g,jT g x0 x1 x2 x3 H Q):bW env Tryz.f24 0 [.code jR] [(0,x0),(1,x1),(2,x2),(3,x3)] H Q:=⟨fun g=>aY (live:=sd) (cut:=si) (n:=500) (Eq.mp (by kernel_rfl) (h g))⟩
end Go.Proofs.YtdbiffjdomokfaaGreat
