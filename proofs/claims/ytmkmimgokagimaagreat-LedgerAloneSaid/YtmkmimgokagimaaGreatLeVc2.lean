/-
  What is to be shown of each function, computed from its code. No statement of a seat is proved here.
-/
import Derived.Test.YtmkmimgokagimaaGreatLeTy
set_option linter.unusedVariables false
set_option maxRecDepth 1000000
namespace Go.Proofs.YtmkmimgokagimaaGreat
open Go.Ab
noncomputable def ma:Code:=(Tryz.f62.body).getD .skip
def qf:Nat→Option (List Nat):=fun i=>none
def qn:Nat→Bool:=fun i=>false
def bY(g:Nat→AV)(x0 x1:AV)(H:Heap)(Q:AV→Heap→Prop):Prop :=
 doW (Zc H 2 38 x0) fun v1 H1 =>
 doW (Zc H1 3 38 x1) fun v2 H2 =>
 doQ (Zd 38 v1 0) fun v3 =>
 doQ (Zb H2 5 v3) fun v4 =>
 doQ (Zd 38 v2 0) fun v5 =>
 doQ (Zb H2 5 v5) fun v6 =>
 doQ (Zn 5 6 8 v4 v6) fun v7 =>
 gQ v7 true (Zd 38 v1 1) fun v8 =>
 gQ v7 true (Zb H2 31 v8) fun v9 =>
 gQ v7 true (Zd 38 v2 1) fun v10 =>
 gQ v7 true (Zb H2 31 v10) fun v11 =>
 gQ v7 true (Zn 31 12 14 v9 v11) fun v12 =>
 doQ (Zg v7 v12) fun v13 =>
 gQ v13 true (Zd 38 v1 2) fun v14 =>
 gQ v13 true (Zb H2 3 v14) fun v15 =>
 gQ v13 true (Zd 38 v2 2) fun v16 =>
 gQ v13 true (Zb H2 3 v16) fun v17 =>
 gQ v13 true (Zn 3 19 21 v15 v17) fun v18 =>
 doQ (Zg v13 v18) fun v19 =>
 gQ v19 true (Zd 38 v1 3) fun v20 =>
 gQ v19 true (Zb H2 35 v20) fun v21 =>
 gQ v19 true (Zd 38 v2 3) fun v22 =>
 gQ v19 true (Zb H2 35 v22) fun v23 =>
 gQ v19 true (Zn 35 26 28 v21 v23) fun v24 =>
 doQ (Zg v19 v24) fun v25 =>
 gQ v25 true (Zd 38 v1 4) fun v26 =>
 gQ v25 true (Zb H2 33 v26) fun v27 =>
 gQ v25 true (Zd 38 v2 4) fun v28 =>
 gQ v25 true (Zb H2 33 v28) fun v29 =>
 gQ v25 true (Zn 33 33 35 v27 v29) fun v30 =>
 doQ (Zg v25 v30) fun v31 =>
 gQ v31 true (Zd 38 v1 5) fun v32 =>
 gQ v31 true (Zb H2 29 v32) fun v33 =>
 gQ v31 true (Zd 38 v2 5) fun v34 =>
 gQ v31 true (Zb H2 29 v34) fun v35 =>
 gQ v31 true (Zn 29 40 42 v33 v35) fun v36 =>
 doQ (Zg v31 v36) fun v37 =>
 gQ v37 true (Zd 38 v1 6) fun v38 =>
 gQ v37 true (Zb H2 36 v38) fun v39 =>
 gQ v37 true (Zd 38 v2 6) fun v40 =>
 gQ v37 true (Zb H2 36 v40) fun v41 =>
 gW v37 true H2 (Za true H2 50 133 [v39,v41]) fun v42 H3 =>
 doQ (Zg v37 v42) fun v43 =>
 Q v43 H3
theorem p8(x0 x1:AV)(H:Heap)(Q:AV→Heap→Prop)(h : ∀g,bY g x0 x1 H Q):GoL env Tryz.f62 0 [.code ma] [(0,x0),(1,x1)] H Q:=⟨fun g=>aH (live:=qf) (cut:=qn) (n:=500) (Eq.mp (by kernel_rfl) (h g))⟩
noncomputable def zH:Code:=(Tryz.f70.body).getD .skip
def Ev:Nat→Option (List Nat):=fun i=>none
def EZ:Nat→Bool:=fun i=>false
def gE(g:Nat→AV)(x0:AV)(H:Heap)(Q:AV→Heap→Prop):Prop :=
 doW (Zc H 1 38 x0) fun v1 H1 =>
 doQ (Zd 38 v1 0) fun v2 =>
 doQ (Zb H1 5 v2) fun v3 =>
 doQ (qBin env.P .eql 5 (Operand.tmp 4) (.const (.int .u8 0)) (some v3) (some (a8 0))) fun v4 =>
 gQ v4 false (Zd 38 v1 0) fun v5 =>
 gQ v4 false (Zb H1 5 v5) fun v6 =>
 gQ v4 false (qBin env.P .geq 5 (Operand.tmp 8) (.const (.int .u8 4)) (some v6) (some (a8 4))) fun v7 =>
 doQ (Zl v4 v7) fun v8 =>
 gQ v8 false (Zd 38 v1 1) fun v9 =>
 gQ v8 false (Zb H1 31 v9) fun v10 =>
 gW v8 false H1 (Za false H1 14 91 [v10]) fun v11 H2 =>
 gQ v8 false (Ze 42 14 0 v11) fun v12 =>
 doQ (Zl v8 v12) fun v13 =>
 gQ v13 false (Zd 38 v1 2) fun v14 =>
 gQ v13 false (Zb H2 3 v14) fun v15 =>
 gQ v13 false (Zs 3 19 1 v15) fun v16 =>
 doQ (Zl v13 v16) fun v17 =>
 gQ v17 false (Zd 38 v1 2) fun v18 =>
 gQ v17 false (Zb H2 3 v18) fun v19 =>
 gQ v17 false (Zq 3 24 16777216 v19) fun v20 =>
 doQ (Zl v17 v20) fun v21 =>
 gQ v21 false (Zd 38 v1 3) fun v22 =>
 gQ v21 false (Zb H2 35 v22) fun v23 =>
 gW v21 false H2 (Za false H2 30 135 [v23]) fun v24 H3 =>
 gQ v21 false (Ze 42 30 0 v24) fun v25 =>
 doQ (Zl v21 v25) fun v26 =>
 gW v26 false H3 (Za false H3 34 136 []) fun v27 H4 =>
 gQ v26 false (Zd 38 v1 0) fun v28 =>
 gQ v26 false (Zb H4 5 v28) fun v29 =>
 gQ v26 false (ov env.P 204 (some v27) (some v29)) fun v30 =>
 gQ v26 false (px env.P 203 (some v30) 0) fun v31 =>
 gQ v26 false (Zb H4 38 v1) fun v32 =>
 gW v26 false H4 (ZH H4 40 v31 v32) fun v33 H5 =>
 gQ v26 false (ZE v33) fun v34 =>
 doQ (Zl v26 v34) fun v35 =>
 br (some v35) (
 Q (.v (.int .i64 8)) H5) (
 Q (.v (.int .i64 0)) H5)
theorem DV(x0:AV)(H:Heap)(Q:AV→Heap→Prop)(h : ∀g,gE g x0 H Q):GoL env Tryz.f70 0 [.code zH] [(0,x0)] H Q:=⟨fun g=>aH (live:=Ev) (cut:=EZ) (n:=500) (Eq.mp (by kernel_rfl) (h g))⟩
noncomputable def sF:Code:=(Tryz.f108.body).getD .skip
def GX:Nat→Option (List Nat):=fun i=>none
def Hh:Nat→Bool:=fun i=>false
def sI(g:Nat→AV)(x0:AV)(H:Heap)(Q:AV→Heap→Prop):Prop :=
 doW (Zc H 1 38 x0) fun v1 H1 =>
 doW (Zj H1 2 38) fun v2 H2 =>
 doQ (Zd 38 v1 6) fun v3 =>
 doQ (Zb H2 36 v3) fun v4 =>
 doW (Za true H2 5 173 [v4]) fun v5 H3 =>
 doQ (Zd 38 v1 6) fun v6 =>
 doW (Zo H3 36 v6 v5) fun v7 H4 =>
 doQ (Zb H4 38 v1) fun v8 =>
 doW (Zo H4 38 v2 v8) fun v9 H5 =>
 doQ (Z7 H5 v2 38) fun v10 =>
 Q v10 H5
theorem vx(x0:AV)(H:Heap)(Q:AV→Heap→Prop)(h : ∀g,sI g x0 H Q):GoL env Tryz.f108 0 [.code sF] [(0,x0)] H Q:=⟨fun g=>aH (live:=GX) (cut:=Hh) (n:=500) (Eq.mp (by kernel_rfl) (h g))⟩
noncomputable def zG:Code:=(Tryz.f121.body).getD .skip
def Eu:Nat→Option (List Nat):=fun i=>none
def EY:Nat→Bool:=fun i=>false
def zM(g:Nat→AV)(x0:AV)(H:Heap)(Q:AV→Heap→Prop):Prop :=
 doW (Zc H 1 38 x0) fun v1 H1 =>
 doQ (Zd 38 v1 6) fun v2 =>
 doQ (Zb H1 36 v2) fun v3 =>
 doW (Za true H1 5 176 [v3,(.v (.int .i32 (-1)))]) fun v4 H2 =>
 doQ (ZE v4) fun v5 =>
 Q v5 H2
theorem DU(x0:AV)(H:Heap)(Q:AV→Heap→Prop)(h : ∀g,zM g x0 H Q):GoL env Tryz.f121 0 [.code zG] [(0,x0)] H Q:=⟨fun g=>aH (live:=Eu) (cut:=EY) (n:=500) (Eq.mp (by kernel_rfl) (h g))⟩
noncomputable def rI:Code:=(Tryz.f163.body).getD .skip
def Jf:Nat→Option (List Nat):=fun i=>none
def JW:Nat→Bool:=fun i=>false
def pV(g:Nat→AV)(x0:AV)(H:Heap)(Q:AV→Heap→Prop):Prop :=
 doW (Zc H 1 38 x0) fun v1 H1 =>
 doQ (Zb H1 38 v1) fun v2 =>
 doW (Za true H1 16 70 [v2]) fun v3 H2 =>
 doQ (Ze 42 17 0 v3) fun v4 =>
 br (some v4) (
 Q (.tup [(.v (.slice none 0 0)),v3]) H2) (
 doQ (Zd 38 v1 1) fun v5 =>
 doQ (Zb H2 31 v5) fun v6 =>
 doW (Za true H2 23 162 [v6]) fun v7 H3 =>
 doQ (Zx v7 0) fun v8 =>
 doQ (Zx v7 1) fun v9 =>
 doQ (Zd 38 v1 3) fun v10 =>
 doQ (Zd 35 v10 0) fun v11 =>
 doQ (Zb H3 33 v11) fun v12 =>
 doW (Za true H3 30 208 [v12]) fun v13 H4 =>
 doQ (Zx v13 0) fun v14 =>
 doQ (Zx v13 1) fun v15 =>
 doQ (Zd 38 v1 0) fun v16 =>
 doQ (Zb H4 5 v16) fun v17 =>
 doW (ZD H4 35 170 1 0 v17) fun v18 H5 =>
 doQ (Zd 38 v1 2) fun v19 =>
 doQ (Zb H5 3 v19) fun v20 =>
 doQ (Z9 3 38 v20) fun v21 =>
 doQ (Zw H5 40 3 5 v21) fun v22 =>
 doQ (Zd 38 v1 2) fun v23 =>
 doQ (Zb H5 3 v23) fun v24 =>
 doQ (ZV 3 42 v24) fun v25 =>
 doQ (Zw H5 44 3 5 v25) fun v26 =>
 doQ (Zd 38 v1 2) fun v27 =>
 doQ (Zb H5 3 v27) fun v28 =>
 doQ (Zw H5 47 3 5 v28) fun v29 =>
 doW (iI env.P false true H5 (Ref.mk 0 48 (Heap.gen H5 0 48) 0) 170 3 (some [(0,v22),(1,v26),(2,v29)])) fun v30 H6 =>
 doQ (Zd 38 v1 3) fun v31 =>
 doQ (Zd 35 v31 1) fun v32 =>
 doQ (Zb H6 3 v32) fun v33 =>
 doQ (Zw H6 53 3 5 v33) fun v34 =>
 doW (ZD H6 54 170 1 0 v34) fun v35 H7 =>
 doW (iI env.P false true H7 (Ref.mk 0 55 (Heap.gen H7 0 55) 0) 279 5 (some [(0,v18),(1,v8),(2,v30),(3,v14),(4,v35)])) fun v36 H8 =>
 doW (Za true H8 56 209 [v36]) fun v37 H9 =>
 doQ (Zd 38 v1 0) fun v38 =>
 doQ (Zb H9 5 v38) fun v39 =>
 doQ (ZK 5 58 v39) fun v40 =>
 br (some v40) (
 doW (nRes H9 (Ref.mk 0 61 (Heap.gen H9 0 61) 0) (C0 env.P (Ref.mk 0 61 (Heap.gen H9 0 61) 0) 170 (some (AV.v (Value.int IntKind.i64 13))) (some (AV.v (Value.int IntKind.i64 13))))) fun v41 H10 =>
 doQ (Zd 38 v1 4) fun v42 =>
 doQ (Zb H10 33 v42) fun v43 =>
 doQ (Z6 33) fun v44 =>
 doQ (Zv 33 63 64 v43 v44) fun v45 =>
 br (some v45) (
 doQ (Zd 38 v1 4) fun v46 =>
 doQ (Zb H10 33 v46) fun v47 =>
 doW (Za true H10 69 208 [v47]) fun v48 H11 =>
 doQ (Zx v48 0) fun v49 =>
 doQ (Zx v48 1) fun v50 =>
 doQ (Zd 38 v1 6) fun v51 =>
 doQ (Zb H11 36 v51) fun v52 =>
 doW (Za true H11 75 210 [v52]) fun v53 H12 =>
 doQ (Zx v53 0) fun v54 =>
 doQ (Zx v53 1) fun v55 =>
 doW (iI env.P false true H12 (Ref.mk 0 81 (Heap.gen H12 0 81) 0) 279 3 (some [(0,v37),(1,v49),(2,v54)])) fun v56 H13 =>
 doW (Za true H13 82 209 [v56]) fun v57 H14 =>
 Q (.tup [v57,(.v (.int .i64 0))]) H14) (
 doQ (Zd 38 v1 6) fun v46 =>
 doQ (Zb H10 36 v46) fun v47 =>
 doW (Za true H10 75 210 [v47]) fun v48 H11 =>
 doQ (Zx v48 0) fun v49 =>
 doQ (Zx v48 1) fun v50 =>
 doW (iI env.P false true H11 (Ref.mk 0 81 (Heap.gen H11 0 81) 0) 279 3 (some [(0,v37),(1,v41),(2,v49)])) fun v51 H12 =>
 doW (Za true H12 82 209 [v51]) fun v52 H13 =>
 Q (.tup [v52,(.v (.int .i64 0))]) H13)) (
 doQ (ZO 5 58 v39) fun v41 =>
 br (some v41) (
 doQ (Zd 38 v1 5) fun v42 =>
 doQ (Zb H9 29 v42) fun v43 =>
 doQ (Yc 31 0 v43) fun v44 =>
 doW (Za true H9 89 162 [v44]) fun v45 H10 =>
 doQ (Zx v45 0) fun v46 =>
 doQ (Zx v45 1) fun v47 =>
 doQ (fA env.P (Heap.get H10) 170 (some v46) (some none) (oi (.v (.int .i64 5))) (some none)) fun v48 =>
 doW (Zt H10 95 170 170 v37 v48) fun v49 H11 =>
 Q (.tup [v49,(.v (.int .i64 0))]) H11) (
 Q (.tup [v37,(.v (.int .i64 0))]) H9)))
theorem uf(x0:AV)(H:Heap)(Q:AV→Heap→Prop)(h : ∀g,pV g x0 H Q):GoL env Tryz.f163 0 [.code rI] [(0,x0)] H Q:=⟨fun g=>aH (live:=Jf) (cut:=JW) (n:=500) (Eq.mp (by kernel_rfl) (h g))⟩
noncomputable def vg:Code:=(Tryz.f183.body).getD .skip
def B0:Nat→Option (List Nat):=fun i=>none
def Cl:Nat→Bool:=fun i=>false
def qx(g:Nat→AV)(x0:AV)(H:Heap)(Q:AV→Heap→Prop):Prop :=
 doW (Zc H 1 38 x0) fun v1 H1 =>
 doQ (Zd 38 v1 4) fun v2 =>
 doQ (Zb H1 33 v2) fun v3 =>
 doQ (Z6 33) fun v4 =>
 doQ (Zn 33 4 5 v3 v4) fun v5 =>
 gQ v5 true (Zd 38 v1 6) fun v6 =>
 gQ v5 true (Zb H1 36 v6) fun v7 =>
 gQ v5 true (Zh H1 10 36 v7) fun v8 =>
 gQ v5 true (Zk 3 10 0 v8) fun v9 =>
 doQ (Zg v5 v9) fun v10 =>
 Q v10 H1
theorem Bu(x0:AV)(H:Heap)(Q:AV→Heap→Prop)(h : ∀g,qx g x0 H Q):GoL env Tryz.f183 0 [.code vg] [(0,x0)] H Q:=⟨fun g=>aH (live:=B0) (cut:=Cl) (n:=500) (Eq.mp (by kernel_rfl) (h g))⟩
noncomputable def vf:Code:=(Tryz.f184.body).getD .skip
def BZ:Nat→Option (List Nat):=fun i=>none
def Ck:Nat→Bool:=fun i=>false
def vt(g:Nat→AV)(x0:AV)(H:Heap)(Q:AV→Heap→Prop):Prop :=
 doW (Zc H 1 38 x0) fun v1 H1 =>
 doQ (Zd 38 v1 5) fun v2 =>
 doQ (Zb H1 29 v2) fun v3 =>
 doW (Za false H1 5 185 []) fun v4 H2 =>
 doQ (Zn 29 4 5 v3 v4) fun v5 =>
 Q v5 H2
theorem Bt(x0:AV)(H:Heap)(Q:AV→Heap→Prop)(h : ∀g,vt g x0 H Q):GoL env Tryz.f184 0 [.code vf] [(0,x0)] H Q:=⟨fun g=>aH (live:=BZ) (cut:=Ck) (n:=500) (Eq.mp (by kernel_rfl) (h g))⟩
noncomputable def vd:Code:=(Tryz.f186.body).getD .skip
def BY:Nat→Option (List Nat):=fun i=>none
def Cj:Nat→Bool:=fun i=>false
def fx(g:Nat→AV)(x0 x1:AV)(H:Heap)(Q:AV→Heap→Prop):Prop :=
 doW (Zc H 2 38 x0) fun v1 H1 =>
 doQ (Zd 38 v1 4) fun v2 =>
 doQ (Zb H1 33 v2) fun v3 =>
 doQ (Z6 33) fun v4 =>
 doQ (Zn 33 6 7 v3 v4) fun v5 =>
 gQ v5 false (Zd 38 v1 4) fun v6 =>
 gQ v5 false (Zb H1 33 v6) fun v7 =>
 gW v5 false H1 (Za true H1 12 182 [v7]) fun v8 H2 =>
 gQ v5 false (Zk 42 12 0 v8) fun v9 =>
 doQ (Zl v5 v9) fun v10 =>
 doQ (Zb H2 137 x1) fun v11 =>
 doQ (Zb H2 38 v1) fun v12 =>
 doW (ZH H2 17 v11 v12) fun v13 H3 =>
 gQ v13 true (ZF v10) fun v14 =>
 doQ (Zg v13 v14) fun v15 =>
 gQ v15 true (Zd 38 v1 3) fun v16 =>
 gQ v15 true (Zd 35 v16 0) fun v17 =>
 gQ v15 true (Zd 33 v17 0) fun v18 =>
 gQ v15 true (Zb H3 31 v18) fun v19 =>
 gQ v15 true (Zd 38 v1 1) fun v20 =>
 gQ v15 true (Zb H3 31 v20) fun v21 =>
 gQ v15 true (Zn 31 25 27 v19 v21) fun v22 =>
 doQ (Zg v15 v22) fun v23 =>
 gQ v23 true (Zd 38 v1 6) fun v24 =>
 gQ v23 true (Zb H3 36 v24) fun v25 =>
 gQ v23 true (Zh H3 33 36 v25) fun v26 =>
 gQ v23 true (Zd 38 v1 3) fun v27 =>
 gQ v23 true (Zd 35 v27 1) fun v28 =>
 gQ v23 true (Zb H3 3 v28) fun v29 =>
 gQ v23 true (Zn 3 33 36 v26 v29) fun v30 =>
 doQ (Zg v23 v30) fun v31 =>
 gQ v31 true (Zd 38 v1 6) fun v32 =>
 gQ v31 true (Zb H3 36 v32) fun v33 =>
 gW v31 true H3 (Za true H3 42 187 [v33]) fun v34 H4 =>
 gQ v31 true (Zk 42 42 0 v34) fun v35 =>
 doQ (Zg v31 v35) fun v36 =>
 Q v36 H4
theorem Bs(x0 x1:AV)(H:Heap)(Q:AV→Heap→Prop)(h : ∀g,fx g x0 x1 H Q):GoL env Tryz.f186 0 [.code vd] [(0,x0),(1,x1)] H Q:=⟨fun g=>aH (live:=BY) (cut:=Cj) (n:=500) (Eq.mp (by kernel_rfl) (h g))⟩
noncomputable def vc:Code:=(Tryz.f189.body).getD .skip
def BX:Nat→Option (List Nat):=fun i=>none
def Ci:Nat→Bool:=fun i=>false
def vq(g:Nat→AV)(x0 x1 x2:AV)(H:Heap)(Q:AV→Heap→Prop):Prop :=
 doW (Zc H 3 38 x0) fun v1 H1 =>
 doQ (Zb H1 137 x1) fun v2 =>
 doQ (Zb H1 38 v1) fun v3 =>
 doW (ZH H1 7 v2 v3) fun v4 H2 =>
 gQ v4 true (Zb H2 137 x2) fun v5 =>
 gQ v4 true (Zb H2 38 v1) fun v6 =>
 gW v4 true H2 (ZH H2 11 v5 v6) fun v7 H3 =>
 doQ (Zg v4 v7) fun v8 =>
 Q v8 H3
theorem Br(x0 x1 x2:AV)(H:Heap)(Q:AV→Heap→Prop)(h : ∀g,vq g x0 x1 x2 H Q):GoL env Tryz.f189 0 [.code vc] [(0,x0),(1,x1),(2,x2)] H Q:=⟨fun g=>aH (live:=BX) (cut:=Ci) (n:=500) (Eq.mp (by kernel_rfl) (h g))⟩
noncomputable def u9:Code:=(Tryz.f191.body).getD .skip
def BW:Nat→Option (List Nat):=fun i=>none
def Ch:Nat→Bool:=fun i=>false
def vp(g:Nat→AV)(x0 x1:AV)(H:Heap)(Q:AV→Heap→Prop):Prop :=
 doW (Zc H 2 38 x0) fun v1 H1 =>
 doQ (Zb H1 137 x1) fun v2 =>
 doQ (Zb H1 38 v1) fun v3 =>
 doW (ZH H1 6 v2 v3) fun v4 H2 =>
 gQ v4 true (Zd 38 v1 5) fun v5 =>
 gQ v4 true (Zb H2 29 v5) fun v6 =>
 gW v4 true H2 (Za true H2 10 76 [v6]) fun v7 H3 =>
 gQ v4 true (Zk 42 10 0 v7) fun v8 =>
 doQ (Zg v4 v8) fun v9 =>
 Q v9 H3
theorem Bq(x0 x1:AV)(H:Heap)(Q:AV→Heap→Prop)(h : ∀g,vp g x0 x1 H Q):GoL env Tryz.f191 0 [.code u9] [(0,x0),(1,x1)] H Q:=⟨fun g=>aH (live:=BW) (cut:=Ch) (n:=500) (Eq.mp (by kernel_rfl) (h g))⟩
noncomputable def Bg:Code:=(Tryz.f211.body).getD .skip
def GY:Nat→Option (List Nat):=fun i=>none
def Hi:Nat→Bool:=fun i=>false
def kU(g:Nat→AV)(x0 x1:AV)(H:Heap)(Q:AV→Heap→Prop):Prop :=
 doW (Zc H 2 38 x0) fun v1 H1 =>
 doW (Zc H1 3 38 x1) fun v2 H2 =>
 doQ (Zb H2 38 v1) fun v3 =>
 doQ (Zb H2 38 v2) fun v4 =>
 doW (Zj H2 5 38) fun v5 H3 =>
 doW (Zj H3 6 38) fun v6 H4 =>
 doW (Zo H4 38 v5 v3) fun v7 H5 =>
 doW (Zo H5 38 v6 v4) fun v8 H6 =>
  mb [(v2,v5)] [v5,v6] [] H6 ∧
 (doQ (Zd 38 v5 0) fun v9 =>
 doQ (Zb H6 5 v9) fun v10 =>
 doQ (Zd 38 v6 0) fun v11 =>
 doQ (Zb H6 5 v11) fun v12 =>
 doQ (Zn 5 10 12 v10 v12) fun v13 =>
 gQ v13 true (Zd 38 v5 1) fun v14 =>
 gQ v13 true (Zb H6 31 v14) fun v15 =>
 gQ v13 true (Zd 38 v6 1) fun v16 =>
 gQ v13 true (Zb H6 31 v16) fun v17 =>
 gQ v13 true (Zn 31 16 18 v15 v17) fun v18 =>
 doQ (Zg v13 v18) fun v19 =>
 gQ v19 true (Zd 38 v5 2) fun v20 =>
 gQ v19 true (Zb H6 3 v20) fun v21 =>
 gQ v19 true (Zd 38 v6 2) fun v22 =>
 gQ v19 true (Zb H6 3 v22) fun v23 =>
 gQ v19 true (Zn 3 23 25 v21 v23) fun v24 =>
 doQ (Zg v19 v24) fun v25 =>
 gQ v25 true (Zd 38 v5 3) fun v26 =>
 gQ v25 true (Zb H6 35 v26) fun v27 =>
 gQ v25 true (Zd 38 v6 3) fun v28 =>
 gQ v25 true (Zb H6 35 v28) fun v29 =>
 gQ v25 true (Zn 35 30 32 v27 v29) fun v30 =>
 doQ (Zg v25 v30) fun v31 =>
 gQ v31 true (Zd 38 v5 4) fun v32 =>
 gQ v31 true (Zb H6 33 v32) fun v33 =>
 gQ v31 true (Zd 38 v6 4) fun v34 =>
 gQ v31 true (Zb H6 33 v34) fun v35 =>
 gQ v31 true (Zn 33 37 39 v33 v35) fun v36 =>
 doQ (Zg v31 v36) fun v37 =>
 gQ v37 true (Zd 38 v5 5) fun v38 =>
 gQ v37 true (Zb H6 29 v38) fun v39 =>
 gQ v37 true (Zd 38 v6 5) fun v40 =>
 gQ v37 true (Zb H6 29 v40) fun v41 =>
 gQ v37 true (Zn 29 44 46 v39 v41) fun v42 =>
 doQ (Zg v37 v42) fun v43 =>
 gQ v43 true (Zd 38 v5 6) fun v44 =>
 gQ v43 true (Zb H6 36 v44) fun v45 =>
 gQ v43 true (Zd 38 v6 6) fun v46 =>
 gQ v43 true (Zb H6 36 v46) fun v47 =>
 gW v43 true H6 (Za true H6 54 226 [v45,v47]) fun v48 H7 =>
 doQ (Zg v43 v48) fun v49 =>
 Q v49 H7)
theorem Gq(x0 x1:AV)(H:Heap)(Q:AV→Heap→Prop)(h : ∀g,kU g x0 x1 H Q):GoL env Tryz.f211 0 [.code Bg] [(0,x0),(1,x1)] H Q:=⟨fun g=>aH (live:=GY) (cut:=Hi) (n:=500) (Eq.mp (by kernel_rfl) (h g))⟩
end Go.Proofs.YtmkmimgokagimaaGreat
