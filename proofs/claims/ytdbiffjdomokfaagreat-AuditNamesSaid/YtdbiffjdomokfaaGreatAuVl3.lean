/-
  What is to be shown of each function, computed from its code. No statement of a seat is proved here.
-/
import Derived.Test.YtdbiffjdomokfaaGreatAuTy
set_option linter.unusedVariables false
set_option maxRecDepth 1000000
namespace Go.Proofs.YtdbiffjdomokfaaGreat
open Go.Ab
noncomputable def jG:Code:=(Tryz.f3.body).getD .skip
def ox:Nat→Option (List Nat):=fun i=>none
def oD:Nat→Bool:=fun i=>false
def jI(g:Nat→AV)(H:ab)(Q:AV→ab→Prop):Prop :=
 aN (Za true H 8 8 []) fun v1 H1 =>
 aN (Za true H1 9 9 []) fun v2 H2 =>
 ak (ZV 35) fun v3 =>
 aN (Za true H2 11 7 [v1,v2,v3]) fun v4 H3 =>
 ak (ZB v4 0) fun v5 =>
 ak (ZB v4 1) fun v6 =>
 aN (Zi H3 1 22) fun v7 H4 =>
 aN (Zl H4 22 v7 v5) fun v8 H5 =>
 aN (Za false H5 15 8 []) fun v9 H6 =>
 aN (Za false H6 16 9 []) fun v10 H7 =>
 ak (eE env.P (ab.get H7) 31 (some v10) (oi (.v (.int .i64 1))) (some none) (some none)) fun v11 =>
 aN (Za false H7 18 11 []) fun v12 H8 =>
 ak (Y6 40 v12 0) fun v13 =>
 aN (Za false H8 20 10 [v9,v11,v13]) fun v14 H9 =>
 ak (ZB v14 0) fun v15 =>
 ak (ZB v14 1) fun v16 =>
 aN (Za true H9 24 8 []) fun v17 H10 =>
 aN (Za true H10 25 9 []) fun v18 H11 =>
 ak (cb env.P 35 (some [(0,(a8 16))])) fun v19 =>
 aN (Za true H11 27 7 [v17,v18,v19]) fun v20 H12 =>
 ak (ZB v20 0) fun v21 =>
 ak (ZB v20 1) fun v22 =>
 aN (Zi H12 5 22) fun v23 H13 =>
 aN (Zl H13 22 v23 v21) fun v24 H14 =>
 aN (Za true H14 30 12 []) fun v25 H15 =>
 ak (Y4 v25) fun v26 =>
 ak (Y4 v26) fun v27 =>
 gQ v27 true (ZN v6) fun v28 =>
 gQ v27 true (Zg 23 36 0 v28) fun v29 =>
 ak (Zh v27 v29) fun v30 =>
 gQ v30 true (Zb H15 22 v7) fun v31 =>
 gQ v30 true (ZV 22) fun v32 =>
 gQ v30 true (Zp 22 40 41 v31 v32) fun v33 =>
 ak (Zh v30 v33) fun v34 =>
 gQ v34 true (ZN v16) fun v35 =>
 gQ v34 true (Zg 23 45 8 v35) fun v36 =>
 ak (Zh v34 v36) fun v37 =>
 gQ v37 true (ZN v22) fun v38 =>
 gQ v37 true (Zg 23 49 8 v38) fun v39 =>
 ak (Zh v37 v39) fun v40 =>
 Q v40 H15
theorem oh(H:ab)(Q:AV→ab→Prop)(h : ∀g,jI g  H Q):bW env Tryz.f3 0 [.code jG] [] H Q:=⟨fun g=>aY (live:=ox) (cut:=oD) (n:=500) (Eq.mp (by kernel_rfl) (h g))⟩
end Go.Proofs.YtdbiffjdomokfaaGreat
