/-
  What is to be shown of each function, computed from its code. No statement of a seat is proved here.
-/
import Derived.Test.YtdbiffjdomokfaaGreatAuTy
set_option linter.unusedVariables false
set_option maxRecDepth 1000000
namespace Go.Proofs.YtdbiffjdomokfaaGreat
open Go.Ab
noncomputable def so:Code:=(Tryz.f78.body).getD .skip
def Hh:Nat→Option (List Nat):=fun i=>none
def HE:Nat→Bool:=fun i=>false
def sC(g:Nat→AV)(x0:AV)(H:ab)(Q:AV→ab→Prop):Prop :=
 aN (Zc H 1 50 x0) fun v1 H1 =>
 aN (Zi H1 2 50) fun v2 H2 =>
 ak (Zd 50 v1 6) fun v3 =>
 ak (Zb H2 48 v3) fun v4 =>
 aN (Za true H2 5 95 [v4]) fun v5 H3 =>
 ak (Zd 50 v1 6) fun v6 =>
 aN (Zl H3 48 v6 v5) fun v7 H4 =>
 ak (Zb H4 50 v1) fun v8 =>
 aN (Zl H4 50 v2 v8) fun v9 H5 =>
 ak (Y5 H5 v2 50) fun v10 =>
 Q v10 H5
theorem vH(x0:AV)(H:ab)(Q:AV→ab→Prop)(h : ∀g,sC g x0 H Q):bW env Tryz.f78 0 [.code so] [(0,x0)] H Q:=⟨fun g=>aY (live:=Hh) (cut:=HE) (n:=500) (Eq.mp (by kernel_rfl) (h g))⟩
noncomputable def rM:Code:=(Tryz.f99.body).getD .skip
def JP:Nat→Option (List Nat):=fun i=>none
def J9:Nat→Bool:=fun i=>false
def pf(g:Nat→AV)(x0:AV)(H:ab)(Q:AV→ab→Prop):Prop :=
 aN (Zc H 1 50 x0) fun v1 H1 =>
 ak (Zb H1 50 v1) fun v2 =>
 aN (Za true H1 16 115 [v2]) fun v3 H2 =>
 ak (Zf 23 17 0 v3) fun v4 =>
 br (some v4) (
 Q (.tup [(.v (.slice none 0 0)),v3]) H2) (
 ak (Zd 50 v1 1) fun v5 =>
 ak (Zb H2 40 v5) fun v6 =>
 aN (Za true H2 23 98 [v6]) fun v7 H3 =>
 ak (ZB v7 0) fun v8 =>
 ak (ZB v7 1) fun v9 =>
 ak (Zd 50 v1 3) fun v10 =>
 ak (Zd 47 v10 0) fun v11 =>
 ak (Zb H3 45 v11) fun v12 =>
 aN (Za true H3 30 119 [v12]) fun v13 H4 =>
 ak (ZB v13 0) fun v14 =>
 ak (ZB v13 1) fun v15 =>
 ak (Zd 50 v1 0) fun v16 =>
 ak (Zb H4 5 v16) fun v17 =>
 aN (Zx H4 35 137 1 0 v17) fun v18 H5 =>
 ak (Zd 50 v1 2) fun v19 =>
 ak (Zb H5 3 v19) fun v20 =>
 ak (Z8 3 38 v20) fun v21 =>
 ak (Zv H5 40 3 5 v21) fun v22 =>
 ak (Zd 50 v1 2) fun v23 =>
 ak (Zb H5 3 v23) fun v24 =>
 ak (ZT 3 42 v24) fun v25 =>
 ak (Zv H5 44 3 5 v25) fun v26 =>
 ak (Zd 50 v1 2) fun v27 =>
 ak (Zb H5 3 v27) fun v28 =>
 ak (Zv H5 47 3 5 v28) fun v29 =>
 aN (ZM H5 48 137 3 0 v22 1 v26 2 v29) fun v30 H6 =>
 ak (Zd 50 v1 3) fun v31 =>
 ak (Zd 47 v31 1) fun v32 =>
 ak (Zb H6 3 v32) fun v33 =>
 ak (Zv H6 53 3 5 v33) fun v34 =>
 aN (Zx H6 54 137 1 0 v34) fun v35 H7 =>
 aN (eO env.P false true H7 (Ref.mk 0 55 (ab.gen H7 0 55) 0) 209 5 (some [(0,v18),(1,v8),(2,v30),(3,v14),(4,v35)])) fun v36 H8 =>
 aN (Za true H8 56 120 [v36]) fun v37 H9 =>
 ak (Zd 50 v1 0) fun v38 =>
 ak (Zb H9 5 v38) fun v39 =>
 ak (ZJ 5 58 v39) fun v40 =>
 br (some v40) (
 aN (bn H9 (Ref.mk 0 61 (ab.gen H9 0 61) 0) (tz env.P (Ref.mk 0 61 (ab.gen H9 0 61) 0) 137 (some (AV.v (Value.int IntKind.i64 13))) (some (AV.v (Value.int IntKind.i64 13))))) fun v41 H10 =>
 ak (Zd 50 v1 4) fun v42 =>
 ak (Zb H10 45 v42) fun v43 =>
 ak (ZV 45) fun v44 =>
 ak (ZD 45 63 64 v43 v44) fun v45 =>
 br (some v45) (
 ak (Zd 50 v1 4) fun v46 =>
 ak (Zb H10 45 v46) fun v47 =>
 aN (Za true H10 69 119 [v47]) fun v48 H11 =>
 ak (ZB v48 0) fun v49 =>
 ak (ZB v48 1) fun v50 =>
 ak (Zd 50 v1 6) fun v51 =>
 ak (Zb H11 48 v51) fun v52 =>
 aN (Za true H11 75 121 [v52]) fun v53 H12 =>
 ak (ZB v53 0) fun v54 =>
 ak (ZB v53 1) fun v55 =>
 aN (ZM H12 81 209 3 0 v37 1 v49 2 v54) fun v56 H13 =>
 aN (Za true H13 82 120 [v56]) fun v57 H14 =>
 Q (.tup [v57,(.v (.int .i64 0))]) H14) (
 ak (Zd 50 v1 6) fun v46 =>
 ak (Zb H10 48 v46) fun v47 =>
 aN (Za true H10 75 121 [v47]) fun v48 H11 =>
 ak (ZB v48 0) fun v49 =>
 ak (ZB v48 1) fun v50 =>
 aN (ZM H11 81 209 3 0 v37 1 v41 2 v49) fun v51 H12 =>
 aN (Za true H12 82 120 [v51]) fun v52 H13 =>
 Q (.tup [v52,(.v (.int .i64 0))]) H13)) (
 ak (ZO 5 58 v39) fun v41 =>
 br (some v41) (
 ak (Zd 50 v1 5) fun v42 =>
 ak (Zb H9 35 v42) fun v43 =>
 ak (Y3 40 0 v43) fun v44 =>
 aN (Za true H9 89 98 [v44]) fun v45 H10 =>
 ak (ZB v45 0) fun v46 =>
 ak (ZB v45 1) fun v47 =>
 ak (eE env.P (ab.get H10) 137 (some v46) (some none) (oi (.v (.int .i64 5))) (some none)) fun v48 =>
 aN (Zr H10 95 137 137 v37 v48) fun v49 H11 =>
 Q (.tup [v49,(.v (.int .i64 0))]) H11) (
 Q (.tup [v37,(.v (.int .i64 0))]) H9)))
theorem uy(x0:AV)(H:ab)(Q:AV→ab→Prop)(h : ∀g,pf g x0 H Q):bW env Tryz.f99 0 [.code rM] [(0,x0)] H Q:=⟨fun g=>aY (live:=JP) (cut:=J9) (n:=500) (Eq.mp (by kernel_rfl) (h g))⟩
noncomputable def zf:Code:=(Tryz.f100.body).getD .skip
def FH:Nat→Option (List Nat):=fun i=>none
def Gh:Nat→Bool:=fun i=>false
def zj(g:Nat→AV)(x0:AV)(H:ab)(Q:AV→ab→Prop):Prop :=
 aN (Zc H 1 50 x0) fun v1 H1 =>
 ak (Zd 50 v1 6) fun v2 =>
 ak (Zb H1 48 v2) fun v3 =>
 aN (Za true H1 5 122 [v3,(.v (.int .i32 (-1)))]) fun v4 H2 =>
 ak (ZH v4) fun v5 =>
 Q v5 H2
theorem EL(x0:AV)(H:ab)(Q:AV→ab→Prop)(h : ∀g,zj g x0 H Q):bW env Tryz.f100 0 [.code zf] [(0,x0)] H Q:=⟨fun g=>aY (live:=FH) (cut:=Gh) (n:=500) (Eq.mp (by kernel_rfl) (h g))⟩
noncomputable def zg:Code:=(Tryz.f115.body).getD .skip
def FI:Nat→Option (List Nat):=fun i=>none
def Gi:Nat→Bool:=fun i=>false
def gV(g:Nat→AV)(x0:AV)(H:ab)(Q:AV→ab→Prop):Prop :=
 aN (Zc H 1 50 x0) fun v1 H1 =>
 ak (Zd 50 v1 0) fun v2 =>
 ak (Zb H1 5 v2) fun v3 =>
 ak (aE env.P .eql 5 (Operand.tmp 4) (.const (.int .u8 0)) (some v3) (some (a8 0))) fun v4 =>
 gQ v4 false (Zd 50 v1 0) fun v5 =>
 gQ v4 false (Zb H1 5 v5) fun v6 =>
 gQ v4 false (aE env.P .geq 5 (Operand.tmp 8) (.const (.int .u8 4)) (some v6) (some (a8 4))) fun v7 =>
 ak (Zn v4 v7) fun v8 =>
 gQ v8 false (Zd 50 v1 1) fun v9 =>
 gQ v8 false (Zb H1 40 v9) fun v10 =>
 gW v8 false H1 (Za false H1 14 117 [v10]) fun v11 H2 =>
 gQ v8 false (Zf 23 14 0 v11) fun v12 =>
 ak (Zn v8 v12) fun v13 =>
 gQ v13 false (Zd 50 v1 2) fun v14 =>
 gQ v13 false (Zb H2 3 v14) fun v15 =>
 gQ v13 false (Zs 3 19 1 v15) fun v16 =>
 ak (Zn v13 v16) fun v17 =>
 gQ v17 false (Zd 50 v1 2) fun v18 =>
 gQ v17 false (Zb H2 3 v18) fun v19 =>
 gQ v17 false (Zm 3 24 16777216 v19) fun v20 =>
 ak (Zn v17 v20) fun v21 =>
 gQ v21 false (Zd 50 v1 3) fun v22 =>
 gQ v21 false (Zb H2 47 v22) fun v23 =>
 gW v21 false H2 (Za false H2 30 131 [v23]) fun v24 H3 =>
 gQ v21 false (Zf 23 30 0 v24) fun v25 =>
 ak (Zn v21 v25) fun v26 =>
 gW v26 false H3 (Za false H3 34 132 []) fun v27 H4 =>
 gQ v26 false (Zd 50 v1 0) fun v28 =>
 gQ v26 false (Zb H4 5 v28) fun v29 =>
 gQ v26 false (mU env.P 203 (some v27) (some v29)) fun v30 =>
 gQ v26 false (Y6 202 v30 0) fun v31 =>
 gQ v26 false (Zb H4 50 v1) fun v32 =>
 gW v26 false H4 (ZE H4 40 v31 v32) fun v33 H5 =>
 gQ v26 false (ZH v33) fun v34 =>
 ak (Zn v26 v34) fun v35 =>
 br (some v35) (
 Q (.v (.int .i64 8)) H5) (
 Q (.v (.int .i64 0)) H5)
theorem EM(x0:AV)(H:ab)(Q:AV→ab→Prop)(h : ∀g,gV g x0 H Q):bW env Tryz.f115 0 [.code zg] [(0,x0)] H Q:=⟨fun g=>aY (live:=FI) (cut:=Gi) (n:=500) (Eq.mp (by kernel_rfl) (h g))⟩
noncomputable def BC:Code:=(Tryz.f123.body).getD .skip
def Hi:Nat→Option (List Nat):=fun i=>none
def HF:Nat→Bool:=fun i=>false
def kQ(g:Nat→AV)(x0 x1:AV)(H:ab)(Q:AV→ab→Prop):Prop :=
 aN (Zc H 2 50 x0) fun v1 H1 =>
 aN (Zc H1 3 50 x1) fun v2 H2 =>
 ak (Zb H2 50 v1) fun v3 =>
 ak (Zb H2 50 v2) fun v4 =>
 aN (Zi H2 5 50) fun v5 H3 =>
 aN (Zi H3 6 50) fun v6 H4 =>
 aN (Zl H4 50 v5 v3) fun v7 H5 =>
 aN (Zl H5 50 v6 v4) fun v8 H6 =>
  jS [(v2,v5)] [v5,v6] [] H6 ∧
 (ak (Zd 50 v5 0) fun v9 =>
 ak (Zb H6 5 v9) fun v10 =>
 ak (Zd 50 v6 0) fun v11 =>
 ak (Zb H6 5 v11) fun v12 =>
 ak (Zp 5 10 12 v10 v12) fun v13 =>
 gQ v13 true (Zd 50 v5 1) fun v14 =>
 gQ v13 true (Zb H6 40 v14) fun v15 =>
 gQ v13 true (Zd 50 v6 1) fun v16 =>
 gQ v13 true (Zb H6 40 v16) fun v17 =>
 gQ v13 true (Zp 40 16 18 v15 v17) fun v18 =>
 ak (Zh v13 v18) fun v19 =>
 gQ v19 true (Zd 50 v5 2) fun v20 =>
 gQ v19 true (Zb H6 3 v20) fun v21 =>
 gQ v19 true (Zd 50 v6 2) fun v22 =>
 gQ v19 true (Zb H6 3 v22) fun v23 =>
 gQ v19 true (Zp 3 23 25 v21 v23) fun v24 =>
 ak (Zh v19 v24) fun v25 =>
 gQ v25 true (Zd 50 v5 3) fun v26 =>
 gQ v25 true (Zb H6 47 v26) fun v27 =>
 gQ v25 true (Zd 50 v6 3) fun v28 =>
 gQ v25 true (Zb H6 47 v28) fun v29 =>
 gQ v25 true (Zp 47 30 32 v27 v29) fun v30 =>
 ak (Zh v25 v30) fun v31 =>
 gQ v31 true (Zd 50 v5 4) fun v32 =>
 gQ v31 true (Zb H6 45 v32) fun v33 =>
 gQ v31 true (Zd 50 v6 4) fun v34 =>
 gQ v31 true (Zb H6 45 v34) fun v35 =>
 gQ v31 true (Zp 45 37 39 v33 v35) fun v36 =>
 ak (Zh v31 v36) fun v37 =>
 gQ v37 true (Zd 50 v5 5) fun v38 =>
 gQ v37 true (Zb H6 35 v38) fun v39 =>
 gQ v37 true (Zd 50 v6 5) fun v40 =>
 gQ v37 true (Zb H6 35 v40) fun v41 =>
 gQ v37 true (Zp 35 44 46 v39 v41) fun v42 =>
 ak (Zh v37 v42) fun v43 =>
 gQ v43 true (Zd 50 v5 6) fun v44 =>
 gQ v43 true (Zb H6 48 v44) fun v45 =>
 gQ v43 true (Zd 50 v6 6) fun v46 =>
 gQ v43 true (Zb H6 48 v46) fun v47 =>
 gW v43 true H6 (Za true H6 54 141 [v45,v47]) fun v48 H7 =>
 ak (Zh v43 v48) fun v49 =>
 Q v49 H7)
theorem GH(x0 x1:AV)(H:ab)(Q:AV→ab→Prop)(h : ∀g,kQ g x0 x1 H Q):bW env Tryz.f123 0 [.code BC] [(0,x0),(1,x1)] H Q:=⟨fun g=>aY (live:=Hi) (cut:=HF) (n:=500) (Eq.mp (by kernel_rfl) (h g))⟩
noncomputable def vv:Code:=(Tryz.f146.body).getD .skip
def Ci:Nat→Option (List Nat):=fun i=>none
def Ct:Nat→Bool:=fun i=>false
def qY(g:Nat→AV)(x0:AV)(H:ab)(Q:AV→ab→Prop):Prop :=
 aN (Zc H 1 50 x0) fun v1 H1 =>
 ak (Zd 50 v1 4) fun v2 =>
 ak (Zb H1 45 v2) fun v3 =>
 ak (ZV 45) fun v4 =>
 ak (Zp 45 4 5 v3 v4) fun v5 =>
 gQ v5 true (Zd 50 v1 6) fun v6 =>
 gQ v5 true (Zb H1 48 v6) fun v7 =>
 gQ v5 true (Zk H1 10 48 v7) fun v8 =>
 gQ v5 true (Zg 3 10 0 v8) fun v9 =>
 ak (Zh v5 v9) fun v10 =>
 Q v10 H1
theorem BX(x0:AV)(H:ab)(Q:AV→ab→Prop)(h : ∀g,qY g x0 H Q):bW env Tryz.f146 0 [.code vv] [(0,x0)] H Q:=⟨fun g=>aY (live:=Ci) (cut:=Ct) (n:=500) (Eq.mp (by kernel_rfl) (h g))⟩
noncomputable def vu:Code:=(Tryz.f147.body).getD .skip
def Ch:Nat→Option (List Nat):=fun i=>none
def Cs:Nat→Bool:=fun i=>false
def vE(g:Nat→AV)(x0:AV)(H:ab)(Q:AV→ab→Prop):Prop :=
 aN (Zc H 1 50 x0) fun v1 H1 =>
 ak (Zd 50 v1 5) fun v2 =>
 ak (Zb H1 35 v2) fun v3 =>
 aN (Za false H1 5 91 []) fun v4 H2 =>
 ak (Zp 35 4 5 v3 v4) fun v5 =>
 Q v5 H2
theorem BW(x0:AV)(H:ab)(Q:AV→ab→Prop)(h : ∀g,vE g x0 H Q):bW env Tryz.f147 0 [.code vu] [(0,x0)] H Q:=⟨fun g=>aY (live:=Ch) (cut:=Cs) (n:=500) (Eq.mp (by kernel_rfl) (h g))⟩
noncomputable def vt:Code:=(Tryz.f148.body).getD .skip
def Cg:Nat→Option (List Nat):=fun i=>none
def Cr:Nat→Bool:=fun i=>false
def fX(g:Nat→AV)(x0 x1:AV)(H:ab)(Q:AV→ab→Prop):Prop :=
 aN (Zc H 2 50 x0) fun v1 H1 =>
 ak (Zd 50 v1 4) fun v2 =>
 ak (Zb H1 45 v2) fun v3 =>
 ak (ZV 45) fun v4 =>
 ak (Zp 45 6 7 v3 v4) fun v5 =>
 gQ v5 false (Zd 50 v1 4) fun v6 =>
 gQ v5 false (Zb H1 45 v6) fun v7 =>
 gW v5 false H1 (Za true H1 12 137 [v7]) fun v8 H2 =>
 gQ v5 false (Zg 23 12 0 v8) fun v9 =>
 ak (Zn v5 v9) fun v10 =>
 ak (Zb H2 112 x1) fun v11 =>
 ak (Zb H2 50 v1) fun v12 =>
 aN (ZE H2 17 v11 v12) fun v13 H3 =>
 gQ v13 true (ZN v10) fun v14 =>
 ak (Zh v13 v14) fun v15 =>
 gQ v15 true (Zd 50 v1 3) fun v16 =>
 gQ v15 true (Zd 47 v16 0) fun v17 =>
 gQ v15 true (Zd 45 v17 0) fun v18 =>
 gQ v15 true (Zb H3 40 v18) fun v19 =>
 gQ v15 true (Zd 50 v1 1) fun v20 =>
 gQ v15 true (Zb H3 40 v20) fun v21 =>
 gQ v15 true (Zp 40 25 27 v19 v21) fun v22 =>
 ak (Zh v15 v22) fun v23 =>
 gQ v23 true (Zd 50 v1 6) fun v24 =>
 gQ v23 true (Zb H3 48 v24) fun v25 =>
 gQ v23 true (Zk H3 33 48 v25) fun v26 =>
 gQ v23 true (Zd 50 v1 3) fun v27 =>
 gQ v23 true (Zd 47 v27 1) fun v28 =>
 gQ v23 true (Zb H3 3 v28) fun v29 =>
 gQ v23 true (Zp 3 33 36 v26 v29) fun v30 =>
 ak (Zh v23 v30) fun v31 =>
 gQ v31 true (Zd 50 v1 6) fun v32 =>
 gQ v31 true (Zb H3 48 v32) fun v33 =>
 gW v31 true H3 (Za true H3 42 139 [v33]) fun v34 H4 =>
 gQ v31 true (Zg 23 42 0 v34) fun v35 =>
 ak (Zh v31 v35) fun v36 =>
 Q v36 H4
theorem BV(x0 x1:AV)(H:ab)(Q:AV→ab→Prop)(h : ∀g,fX g x0 x1 H Q):bW env Tryz.f148 0 [.code vt] [(0,x0),(1,x1)] H Q:=⟨fun g=>aY (live:=Cg) (cut:=Cr) (n:=500) (Eq.mp (by kernel_rfl) (h g))⟩
noncomputable def vq:Code:=(Tryz.f150.body).getD .skip
def Cf:Nat→Option (List Nat):=fun i=>none
def Cq:Nat→Bool:=fun i=>false
def vD(g:Nat→AV)(x0 x1 x2:AV)(H:ab)(Q:AV→ab→Prop):Prop :=
 aN (Zc H 3 50 x0) fun v1 H1 =>
 ak (Zb H1 112 x1) fun v2 =>
 ak (Zb H1 50 v1) fun v3 =>
 aN (ZE H1 7 v2 v3) fun v4 H2 =>
 gQ v4 true (Zb H2 112 x2) fun v5 =>
 gQ v4 true (Zb H2 50 v1) fun v6 =>
 gW v4 true H2 (ZE H2 11 v5 v6) fun v7 H3 =>
 ak (Zh v4 v7) fun v8 =>
 Q v8 H3
theorem BU(x0 x1 x2:AV)(H:ab)(Q:AV→ab→Prop)(h : ∀g,vD g x0 x1 x2 H Q):bW env Tryz.f150 0 [.code vq] [(0,x0),(1,x1),(2,x2)] H Q:=⟨fun g=>aY (live:=Cf) (cut:=Cq) (n:=500) (Eq.mp (by kernel_rfl) (h g))⟩
noncomputable def vp:Code:=(Tryz.f152.body).getD .skip
def Ce:Nat→Option (List Nat):=fun i=>none
def Cp:Nat→Bool:=fun i=>false
def vC(g:Nat→AV)(x0 x1:AV)(H:ab)(Q:AV→ab→Prop):Prop :=
 aN (Zc H 2 50 x0) fun v1 H1 =>
 ak (Zb H1 112 x1) fun v2 =>
 ak (Zb H1 50 v1) fun v3 =>
 aN (ZE H1 6 v2 v3) fun v4 H2 =>
 gQ v4 true (Zd 50 v1 5) fun v5 =>
 gQ v4 true (Zb H2 35 v5) fun v6 =>
 gW v4 true H2 (Za true H2 10 33 [v6]) fun v7 H3 =>
 gQ v4 true (Zg 23 10 0 v7) fun v8 =>
 ak (Zh v4 v8) fun v9 =>
 Q v9 H3
theorem BT(x0 x1:AV)(H:ab)(Q:AV→ab→Prop)(h : ∀g,vC g x0 x1 H Q):bW env Tryz.f152 0 [.code vp] [(0,x0),(1,x1)] H Q:=⟨fun g=>aY (live:=Ce) (cut:=Cp) (n:=500) (Eq.mp (by kernel_rfl) (h g))⟩
end Go.Proofs.YtdbiffjdomokfaaGreat
