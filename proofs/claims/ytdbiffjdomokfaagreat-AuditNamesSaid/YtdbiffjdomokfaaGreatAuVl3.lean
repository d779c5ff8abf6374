/-
  What is to be shown of each function, computed from its code. No statement of a seat is proved here.
-/
import Derived.Test.YtdbiffjdomokfaaGreatAuTy
set_option linter.unusedVariables false
set_option maxRecDepth 1000000
namespace Go.Proofs.YtdbiffjdomokfaaGreat
open Go.Ab
local notation:max "©" b:max h:max n:max f:max a:max=>bm env b (bj env) (bR env 0) h (Ref.mk 0 n (ab.gen h 0 n) 0) (some (AV.fn (Fn.func f) [] [])) a
local notation:max "§" h:max n:max=>Ref.mk 0 n (ab.gen h 0 n) 0
local notation:max "~" a:max=>some a
local notation:max "¥" h:max=>ab.get h
local notation:max "¤" n:max=>(Operand.const (Value.int IntKind.i64 n))
local notation:max "£" n:max=>some (AV.v (Value.int IntKind.i64 n))
local notation:max "¡" => some (AV.v (Value.bool true))
local notation:max "¿" => some (AV.v (Value.bool false))
local notation:max "°" n:max=>(Operand.tmp n)
local notation:max "¢" => env.P
noncomputable def jG:Code:=(Tryz.f3.body).getD .skip
def ox:Nat→Option (List Nat):=fun i=>none
def oD:Nat→Bool:=fun i=>false
def jI(g:Nat→AV)(H:ab)(Q:AV→ab→Prop):Prop :=
 aN (©true H 8 8 []) fun v1 H1 =>
 aN (©true H1 9 9 []) fun v2 H2 =>
 ak (cb ¢ 35 (some [])) fun v3 =>
 aN (©true H2 11 7 [v1,v2,v3]) fun v4 H3 =>
 ak (aH ~v4 0) fun v5 =>
 ak (aH ~v4 1) fun v6 =>
 aN (bn H3 §H3 1 (bV ¢ §H3 1 22)) fun v7 H4 =>
 aN (aV ¢ H4 22 ~v7 ~v5) fun v8 H5 =>
 aN (©false H5 15 8 []) fun v9 H6 =>
 aN (©false H6 16 9 []) fun v10 H7 =>
 ak (eE ¢ ¥H7 31 ~v10 (oi (.v (.int .i64 1))) (some none) (some none)) fun v11 =>
 aN (©false H7 18 11 []) fun v12 H8 =>
 ak (ke ¢ 40 ~v12 0) fun v13 =>
 aN (©false H8 20 10 [v9,v11,v13]) fun v14 H9 =>
 ak (aH ~v14 0) fun v15 =>
 ak (aH ~v14 1) fun v16 =>
 aN (©true H9 24 8 []) fun v17 H10 =>
 aN (©true H10 25 9 []) fun v18 H11 =>
 ak (cb ¢ 35 (some [(0,(a8 16))])) fun v19 =>
 aN (©true H11 27 7 [v17,v18,v19]) fun v20 H12 =>
 ak (aH ~v20 0) fun v21 =>
 ak (aH ~v20 1) fun v22 =>
 aN (bn H12 §H12 5 (bV ¢ §H12 5 22)) fun v23 H13 =>
 aN (aV ¢ H13 22 ~v23 ~v21) fun v24 H14 =>
 aN (©true H14 30 12 []) fun v25 H15 =>
 ak (bp ~v25 ¡ ¿) fun v26 =>
 ak (bp ~v26 ¡ ¿) fun v27 =>
 gQ v27 true (cJ ~v6) fun v28 =>
 gQ v27 true (aE ¢ .eql 23 °36 ¤0 ~v28 £0) fun v29 =>
 ak (bp ~v27 ~v29 ¿) fun v30 =>
 gQ v30 true (aj ¢ ¥H15 22 ~v7) fun v31 =>
 gQ v30 true (cb ¢ 22 (some [])) fun v32 =>
 gQ v30 true (aE ¢ .eql 22 °40 °41 ~v31 ~v32) fun v33 =>
 ak (bp ~v30 ~v33 ¿) fun v34 =>
 gQ v34 true (cJ ~v16) fun v35 =>
 gQ v34 true (aE ¢ .eql 23 °45 ¤8 ~v35 £8) fun v36 =>
 ak (bp ~v34 ~v36 ¿) fun v37 =>
 gQ v37 true (cJ ~v22) fun v38 =>
 gQ v37 true (aE ¢ .eql 23 °49 ¤8 ~v38 £8) fun v39 =>
 ak (bp ~v37 ~v39 ¿) fun v40 =>
 Q v40 H15
theorem oh(H:ab)(Q:AV→ab→Prop)(h : ∀g,jI g  H Q):bW env Tryz.f3 0 [.code jG] [] H Q:=⟨fun g=>aY (live:=ox) (cut:=oD) (n:=500) (Eq.mp (by kernel_rfl) (h g))⟩
end Go.Proofs.YtdbiffjdomokfaaGreat
