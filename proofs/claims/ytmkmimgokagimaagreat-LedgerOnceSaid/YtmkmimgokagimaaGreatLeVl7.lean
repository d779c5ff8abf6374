/-
  What is to be shown of each function, computed from its code. No statement of a seat is proved here.
-/
import Derived.Test.YtmkmimgokagimaaGreatLeTy
set_option linter.unusedVariables false
set_option maxRecDepth 1000000
namespace Go.Proofs.YtmkmimgokagimaaGreat
open Go.Ab
noncomputable def dq:Code:=(Tryz.f7.body).getD .skip
noncomputable def bz:List Item:=(bO 6 400 [.code dq]).getD []
noncomputable def bW:List Item:=(bO 15 400 [.code dq]).getD []
def eI:Nat→Option (List Nat):=fun i=>cond (Nat.beq i 6) (some [11,1,4,10,9,6,3]) (cond (Nat.beq i 15) (some [15,1,11,4,10,9,6,3,14]) (none))
def eK:Nat→Bool:=fun i=>false
def dt(g:Nat→AV)(x0 x1 x2 x3:AV)(H:Heap)(Q:AV→Heap→Prop):Prop :=
 doW (Zc H 4 25 x0) fun v1 H1 =>
 doW (Zc H1 6 29 x2) fun v2 H2 =>
 doW (Za true H2 24 36 []) fun v3 H3 =>
 doQ (Zb H3 25 v1) fun v4 =>
 doW (Za true H3 27 13 [v4,x1,(.v (.int .i64 25))]) fun v5 H4 =>
 gQ v5 false (Zb H4 25 v1) fun v6 =>
 gQ v5 false (ZB x1) fun v7 =>
 gW v5 false H4 (Za true H4 31 34 [v6,v7]) fun v8 H5 =>
 gQ v5 false (Ze 42 31 0 v8) fun v9 =>
 doQ (Zl v5 v9) fun v10 =>
 gQ v10 false (ZB v3) fun v11 =>
 gQ v10 false (ZE v11) fun v12 =>
 doQ (Zl v10 v12) fun v13 =>
 br (some v13) (
 Q v3 H5) (
  GoL env Tryz.f7 0 bz [(11,(.v (.int .i64 0))),(1,x1),(4,v1),(10,(.v (.int .i64 0))),(9,v3),(6,v2),(3,x3)] H5 Q)
theorem lT(x0 x1 x2 x3:AV)(H:Heap)(Q:AV→Heap→Prop)(h : ∀g,dt g x0 x1 x2 x3 H Q):GoL env Tryz.f7 0 [.code dq] [(0,x0),(1,x1),(2,x2),(3,x3)] H Q:=⟨fun g=>aU (live:=eI) (cut:=eK) (n:=500) (Eq.mp (by kernel_rfl) (h g))⟩
def bG(g:Nat→AV)(x11 x1 x4 x10 x9 x6 x3:AV)(H:Heap)(Q:AV→Heap→Prop):Prop :=
 doQ (Zi H 41 26 x1) fun v1 =>
 doQ (Zo 3 39 41 x11 v1) fun v2 =>
 br (some v2) (
 doQ (Zt H 26 x1 x11) fun v3 =>
 doQ (Zb H 62 v3) fun v4 =>
 doW (Za true H 50 42 [v4]) fun v5 H1 =>
 doQ (ZC v5 0) fun v6 =>
 doQ (ZC v5 1) fun v7 =>
 doQ (Ze 42 53 0 v7) fun v8 =>
 br (some v8) (
 Q (.v (.bool false)) H1) (
 doQ (Zz 3 55 56 x10 v6) fun v9 =>
 doQ (Zt H1 26 x1 x11) fun v10 =>
 doQ (Zd 62 v10 0) fun v11 =>
 doQ (Zb H1 5 v11) fun v12 =>
 doQ (qBin env.P .neq 5 (Operand.tmp 62) (.const (.int .u8 2)) (some v12) (some (a8 2))) fun v13 =>
 br (some v13) (
 doQ (Zf 3 43 1 x11) fun v14 =>
  GoL env Tryz.f7 0 bz [(11,v14),(1,x1),(4,x4),(10,v9),(9,x9),(6,x6),(3,x3)] H1 Q) (
  GoL env Tryz.f7 0 bW [(15,(.v (.int .i64 0))),(1,x1),(11,x11),(4,x4),(10,v9),(9,x9),(6,x6),(3,x3),(14,(.v (.int .i64 0)))] H1 Q))) (
 doQ (Zb H 25 x4) fun v3 =>
 doW (Za true H 138 43 [v3]) fun v4 H1 =>
 doQ (ZC v4 0) fun v5 =>
 doQ (ZC v4 1) fun v6 =>
 doQ (Ze 42 141 0 v6) fun v7 =>
 gQ v7 false (ZB x10) fun v8 =>
 gQ v7 false (ZB v5) fun v9 =>
 gQ v7 false (Ya 3 144 145 v8 v9) fun v10 =>
 doQ (Zl v7 v10) fun v11 =>
 gQ v11 false (ZB x3) fun v12 =>
 gQ v11 false (Zm 3 149 0 v12) fun v13 =>
 gQ v11 false (ZB v13) fun v14 =>
 gQ v14 true (ZB x3) fun v15 =>
 gQ v14 true (ZB x1) fun v16 =>
 gQ v14 true (Zi H1 154 26 v16) fun v17 =>
 gQ v14 true (ZM 3 152 154 v15 v17) fun v18 =>
 gQ v11 false (Zg v14 v18) fun v19 =>
 gQ v11 false (ZB v19) fun v20 =>
 gQ v20 true (Zb H1 25 x4) fun v21 =>
 gQ v20 true (ZB x1) fun v22 =>
 gQ v20 true (ZB x3) fun v23 =>
 gQ v20 true (ZG H1 26 v22 v23) fun v24 =>
 gW v20 true H1 (Za false H1 162 34 [v21,v24]) fun v25 H2 =>
 gQ v20 true (Ze 42 162 0 v25) fun v26 =>
 gQ v11 false (Zg v20 v26) fun v27 =>
 doQ (Zl v11 v27) fun v28 =>
 br (some v28) (
 Q (.v (.bool false)) H2) (
 doQ (Zb H2 25 x4) fun v29 =>
 doQ (Zb H2 29 x6) fun v30 =>
 doW (Za true H2 170 31 [v29,x1,v30]) fun v31 H3 =>
 doQ (ZC v31 0) fun v32 =>
 doQ (ZC v31 1) fun v33 =>
 doW (Zj H3 20 81) fun v34 H4 =>
 doW (Zp H4 81 v34 v32) fun v35 H5 =>
 doQ (Zb H5 25 x4) fun v36 =>
 doQ (Zb H5 29 x6) fun v37 =>
 doW (Za true H5 176 44 [v36,v37]) fun v38 H6 =>
 doQ (ZC v38 0) fun v39 =>
 doQ (ZC v38 1) fun v40 =>
 doW (Zj H6 22 81) fun v41 H7 =>
 doW (Zp H7 81 v41 v39) fun v42 H8 =>
 gQ x9 true (ZB v33) fun v43 =>
 gQ x9 true (ZB v40) fun v44 =>
 gQ x9 true (Zq 42 181 182 v43 v44) fun v45 =>
 doQ (Zg x9 v45) fun v46 =>
 gQ v46 true (Zd 81 v34 1) fun v47 =>
 gQ v46 true (Zb H8 3 v47) fun v48 =>
 gQ v46 true (Zd 81 v41 1) fun v49 =>
 gQ v46 true (Zb H8 3 v49) fun v50 =>
 gQ v46 true (ZM 3 187 189 v48 v50) fun v51 =>
 doQ (Zg v46 v51) fun v52 =>
 gQ v52 true (Zd 81 v34 2) fun v53 =>
 gQ v52 true (Zb H8 3 v53) fun v54 =>
 gQ v52 true (Zd 81 v41 2) fun v55 =>
 gQ v52 true (Zb H8 3 v55) fun v56 =>
 gQ v52 true (ZM 3 194 196 v54 v56) fun v57 =>
 doQ (Zg v52 v57) fun v58 =>
 gQ v58 true (Zd 81 v34 3) fun v59 =>
 gQ v58 true (Zb H8 3 v59) fun v60 =>
 gQ v58 true (Zd 81 v41 3) fun v61 =>
 gQ v58 true (Zb H8 3 v61) fun v62 =>
 gQ v58 true (ZM 3 201 203 v60 v62) fun v63 =>
 doQ (Zg v58 v63) fun v64 =>
 Q v64 H8))
theorem cU(x11 x1 x4 x10 x9 x6 x3:AV)(H:Heap)(Q:AV→Heap→Prop)(h : ∀g,bG g x11 x1 x4 x10 x9 x6 x3 H Q):GoL env Tryz.f7 0 bz [(11,x11),(1,x1),(4,x4),(10,x10),(9,x9),(6,x6),(3,x3)] H Q:=cZ fun g=>aU (live:=eI) (cut:=eK) (n:=500) (Eq.mp (by kernel_rfl) (h g))
def bZ(g:Nat→AV)(x15 x1 x11 x4 x10 x9 x6 x3 x14:AV)(H:Heap)(Q:AV→Heap→Prop):Prop :=
 doQ (Zo 3 64 65 x15 x11) fun v1 =>
 br (some v1) (
 doQ (Zt H 26 x1 x15) fun v2 =>
 doQ (Zd 62 v2 0) fun v3 =>
 doQ (Zb H 5 v3) fun v4 =>
 doQ (Z3 5 73 v4) fun v5 =>
 gQ v5 true (ZB x1) fun v6 =>
 gQ v5 true (ZB x15) fun v7 =>
 gQ v5 true (Zt H 26 v6 v7) fun v8 =>
 gQ v5 true (Zd 62 v8 2) fun v9 =>
 gQ v5 true (Zd 38 v9 1) fun v10 =>
 gQ v5 true (Zb H 31 v10) fun v11 =>
 gQ v5 true (ZB x1) fun v12 =>
 gQ v5 true (ZB x11) fun v13 =>
 gQ v5 true (Zt H 26 v12 v13) fun v14 =>
 gQ v5 true (Zd 62 v14 2) fun v15 =>
 gQ v5 true (Zd 38 v15 1) fun v16 =>
 gQ v5 true (Zb H 31 v16) fun v17 =>
 gQ v5 true (Zq 31 81 87 v11 v17) fun v18 =>
 doQ (Zg v5 v18) fun v19 =>
 br (some v19) (
 doQ (Zt H 26 x1 x15) fun v20 =>
 doQ (Zd 62 v20 2) fun v21 =>
 doQ (Zd 38 v21 2) fun v22 =>
 doQ (Zb H 3 v22) fun v23 =>
 doQ (Zf 3 67 1 x15) fun v24 =>
  GoL env Tryz.f7 0 bW [(15,v24),(1,x1),(11,x11),(4,x4),(10,x10),(9,x9),(6,x6),(3,x3),(14,v23)] H Q) (
 doQ (Zf 3 67 1 x15) fun v20 =>
  GoL env Tryz.f7 0 bW [(15,v20),(1,x1),(11,x11),(4,x4),(10,x10),(9,x9),(6,x6),(3,x3),(14,x14)] H Q)) (
 doQ (Zb H 25 x4) fun v2 =>
 doQ (Zt H 26 x1 x11) fun v3 =>
 doQ (Zd 62 v3 2) fun v4 =>
 doQ (Zd 38 v4 1) fun v5 =>
 doQ (Zb H 31 v5) fun v6 =>
 doQ (Zt H 26 x1 x11) fun v7 =>
 doQ (Zd 62 v7 2) fun v8 =>
 doQ (Zd 38 v8 2) fun v9 =>
 doQ (Zb H 3 v9) fun v10 =>
 doW (Za false H 111 29 [v2,x1,v6,v10]) fun v11 H1 =>
 doQ (ZC v11 0) fun v12 =>
 doQ (ZC v11 1) fun v13 =>
 doQ (Zt H1 26 x1 x11) fun v14 =>
 doQ (Zd 62 v14 2) fun v15 =>
 doQ (Zd 38 v15 2) fun v16 =>
 doQ (Zb H1 3 v16) fun v17 =>
 doQ (Zf 3 120 1 x14) fun v18 =>
 doQ (ZF 3 119 121 v17 v18) fun v19 =>
 gQ v19 false (ZB v13) fun v20 =>
 gQ v19 false (Ze 42 124 0 v20) fun v21 =>
 doQ (Zl v19 v21) fun v22 =>
 gQ v22 false (ZB v12) fun v23 =>
 gQ v22 false (ZB x1) fun v24 =>
 gQ v22 false (ZB x11) fun v25 =>
 gQ v22 false (Zt H1 26 v24 v25) fun v26 =>
 gQ v22 false (Zd 62 v26 3) fun v27 =>
 gQ v22 false (Zb H1 42 v27) fun v28 =>
 gQ v22 false (ZF 42 128 133 v23 v28) fun v29 =>
 doQ (Zl v22 v29) fun v30 =>
 br (some v30) (
 Q (.v (.bool false)) H1) (
 doQ (Zf 3 43 1 x11) fun v31 =>
  GoL env Tryz.f7 0 bz [(11,v31),(1,x1),(4,x4),(10,x10),(9,x9),(6,x6),(3,x3)] H1 Q))
theorem fX(x15 x1 x11 x4 x10 x9 x6 x3 x14:AV)(H:Heap)(Q:AV→Heap→Prop)(h : ∀g,bZ g x15 x1 x11 x4 x10 x9 x6 x3 x14 H Q):GoL env Tryz.f7 0 bW [(15,x15),(1,x1),(11,x11),(4,x4),(10,x10),(9,x9),(6,x6),(3,x3),(14,x14)] H Q:=cZ fun g=>aU (live:=eI) (cut:=eK) (n:=500) (Eq.mp (by kernel_rfl) (h g))
end Go.Proofs.YtmkmimgokagimaaGreat
