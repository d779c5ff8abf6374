/-
  What is to be shown of each function, computed from its code. No statement of a seat is proved here.
-/
import Derived.Test.YtdbiffjdomokfaaGreatAuTy
set_option linter.unusedVariables false
set_option maxRecDepth 1000000
namespace Go.Proofs.YtdbiffjdomokfaaGreat
open Go.Ab
local notation:max "©" b:max h:max n:max f:max a:max=>bo env b (bj env) (bV env 0) h (Ref.mk 0 n (ab.gen h 0 n) 0) (some (AV.fn (Fn.func f) [] [])) a
local notation:max "§" h:max n:max=>Ref.mk 0 n (ab.gen h 0 n) 0
local notation:max "~" a:max=>some a
local notation:max "¥" h:max=>ab.get h
local notation:max "¤" n:max=>(Operand.const (Value.int IntKind.i64 n))
local notation:max "£" n:max=>some (AV.v (Value.int IntKind.i64 n))
local notation:max "¿" => some (AV.v (Value.bool false))
local notation:max "°" n:max=>(Operand.tmp n)
local notation:max "¢" => env.P
noncomputable def pv:Code:=(Tryz.f8.body).getD .skip
def vf:Nat→Option (List Nat):=fun i=>none
def vw:Nat→Bool:=fun i=>false
def py(g:Nat→AV)(H:ab)(Q:AV→ab→Prop):Prop :=
 aO (bm H §H 0 (bY ¢ §H 0 29)) fun v1 H1 =>
 aO (©true H1 1 11 []) fun v2 H2 =>
 ak (lC ¢ 40 ~v2 0) fun v3 =>
 ak (cK ¢ 52 (some [(0,v3),(1,(.v (.bool true)))])) fun v4 =>
 aO (fa ¢ false true H2 §H2 4 26 1 (some [(0,v4)])) fun v5 H3 =>
 aO (©true H3 5 11 []) fun v6 H4 =>
 ak (lC ¢ 40 ~v6 0) fun v7 =>
 ak (cK ¢ 76 (some [(0,v7),(1,(.v (.int .i64 1))),(2,(.v (.int .i64 2))),(3,(.v (.int .i64 2)))])) fun v8 =>
 aO (fa ¢ false true H4 §H4 8 27 1 (some [(0,v8)])) fun v9 H5 =>
 ak (cK ¢ 29 (some [(0,v5),(1,v9)])) fun v10 =>
 aO (aT ¢ H5 29 ~v1 ~v10) fun v11 H6 =>
 ak (du ¢ H6 v1 29) fun v12 =>
 Q v12 H6
theorem uS(H:ab)(Q:AV→ab→Prop)(h : ∀g,py g  H Q):bT env Tryz.f8 0 [.code pv] [] H Q:=⟨fun g=>aX (live:=vf) (cut:=vw) (n:=500) (Eq.mp (by kernel_rfl) (h g))⟩
noncomputable def oa:Code:=(Tryz.f9.body).getD .skip
def tD:Nat→Option (List Nat):=fun i=>none
def tJ:Nat→Bool:=fun i=>false
def ov(g:Nat→AV)(H:ab)(Q:AV→ab→Prop):Prop :=
 aO (©true H 1 11 []) fun v1 H1 =>
 ak (cK ¢ 50 (some [(1,v1)])) fun v2 =>
 ak (cK ¢ 56 (some [(0,(a8 1)),(2,v2)])) fun v3 =>
 aO (©true H1 4 24 [(.v (.int .i64 1)),(.v (.int .i64 1)),(.v (.int .i64 2)),(.v (.int .i64 0))]) fun v4 H2 =>
 aO (©true H2 5 24 [(.v (.int .i64 2)),(.v (.int .i64 3)),(.v (.int .i64 1)),(.v (.int .i64 9))]) fun v5 H3 =>
 aO (fa ¢ false true H3 §H3 6 31 3 (some [(0,v3),(1,v4),(2,v5)])) fun v6 H4 =>
 Q v6 H4
theorem tj(H:ab)(Q:AV→ab→Prop)(h : ∀g,ov g  H Q):bT env Tryz.f9 0 [.code oa] [] H Q:=⟨fun g=>aX (live:=tD) (cut:=tJ) (n:=500) (Eq.mp (by kernel_rfl) (h g))⟩
noncomputable def pw:Code:=(Tryz.f11.body).getD .skip
def vg:Nat→Option (List Nat):=fun i=>none
def vx:Nat→Bool:=fun i=>false
def pz(g:Nat→AV)(H:ab)(Q:AV→ab→Prop):Prop :=
 aO (bm H §H 0 (bY ¢ §H 0 40)) fun v1 H1 =>
 ak (cK ¢ 35 (some [(0,(a8 1))])) fun v2 =>
 ak (cK ¢ 40 (some [(0,v2)])) fun v3 =>
 aO (aT ¢ H1 40 ~v1 ~v3) fun v4 H2 =>
 ak (du ¢ H2 v1 40) fun v5 =>
 Q v5 H2
theorem uT(H:ab)(Q:AV→ab→Prop)(h : ∀g,pz g  H Q):bT env Tryz.f11 0 [.code pw] [] H Q:=⟨fun g=>aX (live:=vg) (cut:=vx) (n:=500) (Eq.mp (by kernel_rfl) (h g))⟩
noncomputable def mF:Code:=(Tryz.f12.body).getD .skip
def rZ:Nat→Option (List Nat):=fun i=>none
def sd:Nat→Bool:=fun i=>false
def mI(g:Nat→AV)(H:ab)(Q:AV→ab→Prop):Prop :=
 aO (©true H 6 8 []) fun v1 H1 =>
 aO (©true H1 7 9 []) fun v2 H2 =>
 aO (©true H2 8 11 []) fun v3 H3 =>
 ak (lC ¢ 40 ~v3 0) fun v4 =>
 aO (©true H3 10 10 [v1,v2,v4]) fun v5 H4 =>
 ak (aF ~v5 0) fun v6 =>
 ak (aF ~v5 1) fun v7 =>
 aO (©true H4 14 8 []) fun v8 H5 =>
 aO (©true H5 15 9 []) fun v9 H6 =>
 aO (©true H6 16 11 []) fun v10 H7 =>
 ak (lC ¢ 40 ~v10 0) fun v11 =>
 aO (©true H7 18 7 [v8,v9,v11]) fun v12 H8 =>
 ak (aF ~v12 0) fun v13 =>
 ak (aF ~v12 1) fun v14 =>
 aO (bm H8 §H8 3 (bY ¢ §H8 3 22)) fun v15 H9 =>
 aO (aT ¢ H9 22 ~v15 ~v13) fun v16 H10 =>
 ak (aE ¢ .eql 23 °21 ¤0 ~v7 £0) fun v17 =>
 gQ v17 true (cF ~v6) fun v18 =>
 gW v17 true H10 (©true H10 25 11 []) fun v19 H11 =>
 gQ v17 true (cK ¢ 67 (some [(0,v19)])) fun v20 =>
 gW v17 true H11 (©true H11 27 11 []) fun v21 H12 =>
 gQ v17 true (cK ¢ 67 (some [(0,v21),(1,(.v (.int .i64 1)))])) fun v22 =>
 gW v17 true H12 (©true H12 29 11 []) fun v23 H13 =>
 gQ v17 true (cK ¢ 67 (some [(0,v23),(1,(.v (.int .i64 2))),(2,(.v (.int .i64 9)))])) fun v24 =>
 gW v17 true H13 (fa ¢ false true H13 §H13 31 36 3 (some [(0,v20),(1,v22),(2,v24)])) fun v25 H14 =>
 gW v17 true H14 (©true H14 32 17 [v18,v25]) fun v26 H15 =>
 ak (bq ~v17 ~v26 ¿) fun v27 =>
 gQ v27 true (cF ~v14) fun v28 =>
 gQ v27 true (aE ¢ .eql 23 °35 ¤0 ~v28 £0) fun v29 =>
 ak (bq ~v27 ~v29 ¿) fun v30 =>
 gQ v30 true (aj ¢ ¥H15 22 ~v15) fun v31 =>
 gQ v30 true (cK ¢ 22 (some [(0,(.v (.int .i64 1))),(1,(.v (.int .i64 1))),(2,(.v (.int .i64 1))),(3,(.v (.int .i64 0)))])) fun v32 =>
 gQ v30 true (aE ¢ .eql 22 °39 °40 ~v31 ~v32) fun v33 =>
 ak (bq ~v30 ~v33 ¿) fun v34 =>
 Q v34 H15
theorem rU(H:ab)(Q:AV→ab→Prop)(h : ∀g,mI g  H Q):bT env Tryz.f12 0 [.code mF] [] H Q:=⟨fun g=>aX (live:=rZ) (cut:=sd) (n:=500) (Eq.mp (by kernel_rfl) (h g))⟩
noncomputable def kG:Code:=(Tryz.f24.body).getD .skip
def tC:Nat→Option (List Nat):=fun i=>none
def tI:Nat→Bool:=fun i=>false
def kI(g:Nat→AV)(x0 x1 x2 x3:AV)(H:ab)(Q:AV→ab→Prop):Prop :=
 aO (bm H §H 8 (bY ¢ §H 8 56)) fun v1 H1 =>
 aO (©false H1 10 11 []) fun v2 H2 =>
 aO (©false H2 12 11 []) fun v3 H3 =>
 ak (cK ¢ 45 (some [(0,v3),(1,x1)])) fun v4 =>
 ak (cK ¢ 47 (some [(0,v4),(1,x2)])) fun v5 =>
 aO (bm H3 §H3 18 (u4 ¢ §H3 18 48 ~x2 ~x2)) fun v6 H4 =>
 ak (cK ¢ 50 (some [(0,(a8 1)),(1,v2),(2,x0),(3,v5),(6,v6)])) fun v7 =>
 aO (bm H4 §H4 9 (bY ¢ §H4 9 50)) fun v8 H5 =>
 aO (aT ¢ H5 50 ~v8 ~v7) fun v9 H6 =>
 ak (aj ¢ ¥H6 50 ~v8) fun v10 =>
 ak (cK ¢ 56 (some [(0,(a8 2)),(2,v10),(3,x3)])) fun v11 =>
 aO (aT ¢ H6 56 ~v1 ~v11) fun v12 H7 =>
 ak (du ¢ H7 v1 56) fun v13 =>
 Q v13 H7
theorem nE(x0 x1 x2 x3:AV)(H:ab)(Q:AV→ab→Prop)(h : ∀g,kI g x0 x1 x2 x3 H Q):bT env Tryz.f24 0 [.code kG] [(0,x0),(1,x1),(2,x2),(3,x3)] H Q:=⟨fun g=>aX (live:=tC) (cut:=tI) (n:=500) (Eq.mp (by kernel_rfl) (h g))⟩
end Go.Proofs.YtdbiffjdomokfaaGreat
