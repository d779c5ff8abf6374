/-
  What is to be shown of each function, computed from its code. No statement of a seat is proved here.
-/
import Derived.Test.YtmkmimgokagimaaGreatLeTy
set_option linter.unusedVariables false
set_option maxRecDepth 1000000
namespace Go.Proofs.YtmkmimgokagimaaGreat
open Go.Ab
noncomputable def lJ:Code:=(Tryz.f62.body).getD .skip
def ql:Nat→Option (List Nat):=fun i=>none
def qu:Nat→Bool:=fun i=>false
def bW(g:Nat→AV)(x0 x1:AV)(H:Heap)(Q:AV→Heap→Prop):Prop :=
 doW (Zc H 2 38 x0) fun v1 H1 =>
 doW (Zc H1 3 38 x1) fun v2 H2 =>
 doQ (Zd 38 v1 0) fun v3 =>
 doQ (Zb H2 5 v3) fun v4 =>
 doQ (Zd 38 v2 0) fun v5 =>
 doQ (Zb H2 5 v5) fun v6 =>
 doQ (Zm 5 6 8 v4 v6) fun v7 =>
 gQ v7 true (Zd 38 v1 1) fun v8 =>
 gQ v7 true (Zb H2 31 v8) fun v9 =>
 gQ v7 true (Zd 38 v2 1) fun v10 =>
 gQ v7 true (Zb H2 31 v10) fun v11 =>
 gQ v7 true (Zm 31 12 14 v9 v11) fun v12 =>
 doQ (Zf v7 v12) fun v13 =>
 gQ v13 true (Zd 38 v1 2) fun v14 =>
 gQ v13 true (Zb H2 3 v14) fun v15 =>
 gQ v13 true (Zd 38 v2 2) fun v16 =>
 gQ v13 true (Zb H2 3 v16) fun v17 =>
 gQ v13 true (Zm 3 19 21 v15 v17) fun v18 =>
 doQ (Zf v13 v18) fun v19 =>
 gQ v19 true (Zd 38 v1 3) fun v20 =>
 gQ v19 true (Zb H2 35 v20) fun v21 =>
 gQ v19 true (Zd 38 v2 3) fun v22 =>
 gQ v19 true (Zb H2 35 v22) fun v23 =>
 gQ v19 true (Zm 35 26 28 v21 v23) fun v24 =>
 doQ (Zf v19 v24) fun v25 =>
 gQ v25 true (Zd 38 v1 4) fun v26 =>
 gQ v25 true (Zb H2 33 v26) fun v27 =>
 gQ v25 true (Zd 38 v2 4) fun v28 =>
 gQ v25 true (Zb H2 33 v28) fun v29 =>
 gQ v25 true (Zm 33 33 35 v27 v29) fun v30 =>
 doQ (Zf v25 v30) fun v31 =>
 gQ v31 true (Zd 38 v1 5) fun v32 =>
 gQ v31 true (Zb H2 29 v32) fun v33 =>
 gQ v31 true (Zd 38 v2 5) fun v34 =>
 gQ v31 true (Zb H2 29 v34) fun v35 =>
 gQ v31 true (Zm 29 40 42 v33 v35) fun v36 =>
 doQ (Zf v31 v36) fun v37 =>
 gQ v37 true (Zd 38 v1 6) fun v38 =>
 gQ v37 true (Zb H2 36 v38) fun v39 =>
 gQ v37 true (Zd 38 v2 6) fun v40 =>
 gQ v37 true (Zb H2 36 v40) fun v41 =>
 gW v37 true H2 (Za true H2 50 133 [v39,v41]) fun v42 H3 =>
 doQ (Zf v37 v42) fun v43 =>
 Q v43 H3
theorem p5(x0 x1:AV)(H:Heap)(Q:AV→Heap→Prop)(h : ∀g,bW g x0 x1 H Q):GoL env Tryz.f62 0 [.code lJ] [(0,x0),(1,x1)] H Q:=⟨fun g=>aJ (live:=ql) (cut:=qu) (n:=500) (Eq.mp (by kernel_rfl) (h g))⟩
noncomputable def Ap:Code:=(Tryz.f70.body).getD .skip
def EW:Nat→Option (List Nat):=fun i=>none
def Fp:Nat→Bool:=fun i=>false
def ga(g:Nat→AV)(x0:AV)(H:Heap)(Q:AV→Heap→Prop):Prop :=
 doW (Zc H 1 38 x0) fun v1 H1 =>
 doQ (Zd 38 v1 0) fun v2 =>
 doQ (Zb H1 5 v2) fun v3 =>
 doQ (qBin env.P .eql 5 (Operand.tmp 4) (.const (.int .u8 0)) (some v3) (some (a8 0))) fun v4 =>
 gQ v4 false (Zd 38 v1 0) fun v5 =>
 gQ v4 false (Zb H1 5 v5) fun v6 =>
 gQ v4 false (qBin env.P .geq 5 (Operand.tmp 8) (.const (.int .u8 4)) (some v6) (some (a8 4))) fun v7 =>
 doQ (Zo v4 v7) fun v8 =>
 gQ v8 false (Zd 38 v1 1) fun v9 =>
 gQ v8 false (Zb H1 31 v9) fun v10 =>
 gW v8 false H1 (Za false H1 14 91 [v10]) fun v11 H2 =>
 gQ v8 false (Ze 42 14 0 v11) fun v12 =>
 doQ (Zo v8 v12) fun v13 =>
 gQ v13 false (Zd 38 v1 2) fun v14 =>
 gQ v13 false (Zb H2 3 v14) fun v15 =>
 gQ v13 false (Zs 3 19 1 v15) fun v16 =>
 doQ (Zo v13 v16) fun v17 =>
 gQ v17 false (Zd 38 v1 2) fun v18 =>
 gQ v17 false (Zb H2 3 v18) fun v19 =>
 gQ v17 false (Zq 3 24 16777216 v19) fun v20 =>
 doQ (Zo v17 v20) fun v21 =>
 gQ v21 false (Zd 38 v1 3) fun v22 =>
 gQ v21 false (Zb H2 35 v22) fun v23 =>
 gW v21 false H2 (Za false H2 30 135 [v23]) fun v24 H3 =>
 gQ v21 false (Ze 42 30 0 v24) fun v25 =>
 doQ (Zo v21 v25) fun v26 =>
 gW v26 false H3 (Za false H3 34 136 []) fun v27 H4 =>
 gQ v26 false (Zd 38 v1 0) fun v28 =>
 gQ v26 false (Zb H4 5 v28) fun v29 =>
 gQ v26 false (nN env.P 204 (some v27) (some v29)) fun v30 =>
 gQ v26 false (nO env.P 203 (some v30) 0) fun v31 =>
 gQ v26 false (Zb H4 38 v1) fun v32 =>
 gW v26 false H4 (ZG H4 40 v31 v32) fun v33 H5 =>
 gQ v26 false (Zz v33) fun v34 =>
 doQ (Zo v26 v34) fun v35 =>
 br (some v35) (
 Q (.v (.int .i64 8)) H5) (
 Q (.v (.int .i64 0)) H5)
theorem Ek(x0:AV)(H:Heap)(Q:AV→Heap→Prop)(h : ∀g,ga g x0 H Q):GoL env Tryz.f70 0 [.code Ap] [(0,x0)] H Q:=⟨fun g=>aJ (live:=EW) (cut:=Fp) (n:=500) (Eq.mp (by kernel_rfl) (h g))⟩
noncomputable def sW:Code:=(Tryz.f108.body).getD .skip
def Hj:Nat→Option (List Nat):=fun i=>none
def HG:Nat→Bool:=fun i=>false
def sZ(g:Nat→AV)(x0:AV)(H:Heap)(Q:AV→Heap→Prop):Prop :=
 doW (Zc H 1 38 x0) fun v1 H1 =>
 doW (Zg H1 2 38) fun v2 H2 =>
 doQ (Zd 38 v1 6) fun v3 =>
 doQ (Zb H2 36 v3) fun v4 =>
 doW (Za true H2 5 173 [v4]) fun v5 H3 =>
 doQ (Zd 38 v1 6) fun v6 =>
 doW (Zl H3 36 v6 v5) fun v7 H4 =>
 doQ (Zb H4 38 v1) fun v8 =>
 doW (Zl H4 38 v2 v8) fun v9 H5 =>
 doQ (ZV H5 v2 38) fun v10 =>
 Q v10 H5
theorem vP(x0:AV)(H:Heap)(Q:AV→Heap→Prop)(h : ∀g,sZ g x0 H Q):GoL env Tryz.f108 0 [.code sW] [(0,x0)] H Q:=⟨fun g=>aJ (live:=Hj) (cut:=HG) (n:=500) (Eq.mp (by kernel_rfl) (h g))⟩
noncomputable def Ao:Code:=(Tryz.f121.body).getD .skip
def EV:Nat→Option (List Nat):=fun i=>none
def Fo:Nat→Bool:=fun i=>false
def Av(g:Nat→AV)(x0:AV)(H:Heap)(Q:AV→Heap→Prop):Prop :=
 doW (Zc H 1 38 x0) fun v1 H1 =>
 doQ (Zd 38 v1 6) fun v2 =>
 doQ (Zb H1 36 v2) fun v3 =>
 doW (Za true H1 5 176 [v3,(.v (.int .i32 (-1)))]) fun v4 H2 =>
 doQ (Zz v4) fun v5 =>
 Q v5 H2
theorem Ej(x0:AV)(H:Heap)(Q:AV→Heap→Prop)(h : ∀g,Av g x0 H Q):GoL env Tryz.f121 0 [.code Ao] [(0,x0)] H Q:=⟨fun g=>aJ (live:=EV) (cut:=Fo) (n:=500) (Eq.mp (by kernel_rfl) (h g))⟩
noncomputable def rP:Code:=(Tryz.f163.body).getD .skip
def JA:Nat→Option (List Nat):=fun i=>none
def Kh:Nat→Bool:=fun i=>false
def pL(g:Nat→AV)(x0:AV)(H:Heap)(Q:AV→Heap→Prop):Prop :=
 doW (Zc H 1 38 x0) fun v1 H1 =>
 doQ (Zb H1 38 v1) fun v2 =>
 doW (Za true H1 16 70 [v2]) fun v3 H2 =>
 doQ (Ze 42 17 0 v3) fun v4 =>
 br (some v4) (
 Q (.tup [(.v (.slice none 0 0)),v3]) H2) (
 doQ (Zd 38 v1 1) fun v5 =>
 doQ (Zb H2 31 v5) fun v6 =>
 doW (Za true H2 23 162 [v6]) fun v7 H3 =>
 doQ (Zw v7 0) fun v8 =>
 doQ (Zw v7 1) fun v9 =>
 doQ (Zd 38 v1 3) fun v10 =>
 doQ (Zd 35 v10 0) fun v11 =>
 doQ (Zb H3 33 v11) fun v12 =>
 doW (Za true H3 30 208 [v12]) fun v13 H4 =>
 doQ (Zw v13 0) fun v14 =>
 doQ (Zw v13 1) fun v15 =>
 doQ (Zd 38 v1 0) fun v16 =>
 doQ (Zb H4 5 v16) fun v17 =>
 doW (ZD H4 35 170 1 0 v17) fun v18 H5 =>
 doQ (Zd 38 v1 2) fun v19 =>
 doQ (Zb H5 3 v19) fun v20 =>
 doQ (Yd 3 38 v20) fun v21 =>
 doQ (Zv H5 40 3 5 v21) fun v22 =>
 doQ (Zd 38 v1 2) fun v23 =>
 doQ (Zb H5 3 v23) fun v24 =>
 doQ (ZX 3 42 v24) fun v25 =>
 doQ (Zv H5 44 3 5 v25) fun v26 =>
 doQ (Zd 38 v1 2) fun v27 =>
 doQ (Zb H5 3 v27) fun v28 =>
 doQ (Zv H5 47 3 5 v28) fun v29 =>
 doW (gm env.P false true H5 (Ref.mk 0 48 (Heap.gen H5 0 48) 0) 170 3 (some [(0,v22),(1,v26),(2,v29)])) fun v30 H6 =>
 doQ (Zd 38 v1 3) fun v31 =>
 doQ (Zd 35 v31 1) fun v32 =>
 doQ (Zb H6 3 v32) fun v33 =>
 doQ (Zv H6 53 3 5 v33) fun v34 =>
 doW (ZD H6 54 170 1 0 v34) fun v35 H7 =>
 doW (gm env.P false true H7 (Ref.mk 0 55 (Heap.gen H7 0 55) 0) 279 5 (some [(0,v18),(1,v8),(2,v30),(3,v14),(4,v35)])) fun v36 H8 =>
 doW (Za true H8 56 209 [v36]) fun v37 H9 =>
 doQ (Zd 38 v1 0) fun v38 =>
 doQ (Zb H9 5 v38) fun v39 =>
 doQ (ZL 5 58 v39) fun v40 =>
 br (some v40) (
 doW (nRes H9 (Ref.mk 0 61 (Heap.gen H9 0 61) 0) (Dx env.P (Ref.mk 0 61 (Heap.gen H9 0 61) 0) 170 (some (AV.v (Value.int IntKind.i64 13))) (some (AV.v (Value.int IntKind.i64 13))))) fun v41 H10 =>
 doQ (Zd 38 v1 4) fun v42 =>
 doQ (Zb H10 33 v42) fun v43 =>
 doQ (ZS 33) fun v44 =>
 doQ (ZB 33 63 64 v43 v44) fun v45 =>
 br (some v45) (
 doQ (Zd 38 v1 4) fun v46 =>
 doQ (Zb H10 33 v46) fun v47 =>
 doW (Za true H10 69 208 [v47]) fun v48 H11 =>
 doQ (Zw v48 0) fun v49 =>
 doQ (Zw v48 1) fun v50 =>
 doQ (Zd 38 v1 6) fun v51 =>
 doQ (Zb H11 36 v51) fun v52 =>
 doW (Za true H11 75 210 [v52]) fun v53 H12 =>
 doQ (Zw v53 0) fun v54 =>
 doQ (Zw v53 1) fun v55 =>
 doW (gm env.P false true H12 (Ref.mk 0 81 (Heap.gen H12 0 81) 0) 279 3 (some [(0,v37),(1,v49),(2,v54)])) fun v56 H13 =>
 doW (Za true H13 82 209 [v56]) fun v57 H14 =>
 Q (.tup [v57,(.v (.int .i64 0))]) H14) (
 doQ (Zd 38 v1 6) fun v46 =>
 doQ (Zb H10 36 v46) fun v47 =>
 doW (Za true H10 75 210 [v47]) fun v48 H11 =>
 doQ (Zw v48 0) fun v49 =>
 doQ (Zw v48 1) fun v50 =>
 doW (gm env.P false true H11 (Ref.mk 0 81 (Heap.gen H11 0 81) 0) 279 3 (some [(0,v37),(1,v41),(2,v49)])) fun v51 H12 =>
 doW (Za true H12 82 209 [v51]) fun v52 H13 =>
 Q (.tup [v52,(.v (.int .i64 0))]) H13)) (
 doQ (Z6 5 58 v39) fun v41 =>
 br (some v41) (
 doQ (Zd 38 v1 5) fun v42 =>
 doQ (Zb H9 29 v42) fun v43 =>
 doQ (Yh 31 0 v43) fun v44 =>
 doW (Za true H9 89 162 [v44]) fun v45 H10 =>
 doQ (Zw v45 0) fun v46 =>
 doQ (Zw v45 1) fun v47 =>
 doQ (fc env.P (Heap.get H10) 170 (some v46) (some none) (oi (.v (.int .i64 5))) (some none)) fun v48 =>
 doW (Zt H10 95 170 170 v37 v48) fun v49 H11 =>
 Q (.tup [v49,(.v (.int .i64 0))]) H11) (
 Q (.tup [v37,(.v (.int .i64 0))]) H9)))
theorem uH(x0:AV)(H:Heap)(Q:AV→Heap→Prop)(h : ∀g,pL g x0 H Q):GoL env Tryz.f163 0 [.code rP] [(0,x0)] H Q:=⟨fun g=>aJ (live:=JA) (cut:=Kh) (n:=500) (Eq.mp (by kernel_rfl) (h g))⟩
noncomputable def vB:Code:=(Tryz.f183.body).getD .skip
def Cy:Nat→Option (List Nat):=fun i=>none
def CT:Nat→Bool:=fun i=>false
def qC(g:Nat→AV)(x0:AV)(H:Heap)(Q:AV→Heap→Prop):Prop :=
 doW (Zc H 1 38 x0) fun v1 H1 =>
 doQ (Zd 38 v1 4) fun v2 =>
 doQ (Zb H1 33 v2) fun v3 =>
 doQ (ZS 33) fun v4 =>
 doQ (Zm 33 4 5 v3 v4) fun v5 =>
 gQ v5 true (Zd 38 v1 6) fun v6 =>
 gQ v5 true (Zb H1 36 v6) fun v7 =>
 gQ v5 true (Zk H1 10 36 v7) fun v8 =>
 gQ v5 true (Zi 3 10 0 v8) fun v9 =>
 doQ (Zf v5 v9) fun v10 =>
 Q v10 H1
theorem B1(x0:AV)(H:Heap)(Q:AV→Heap→Prop)(h : ∀g,qC g x0 H Q):GoL env Tryz.f183 0 [.code vB] [(0,x0)] H Q:=⟨fun g=>aJ (live:=Cy) (cut:=CT) (n:=500) (Eq.mp (by kernel_rfl) (h g))⟩
noncomputable def vA:Code:=(Tryz.f184.body).getD .skip
def Cx:Nat→Option (List Nat):=fun i=>none
def CS:Nat→Bool:=fun i=>false
def vK(g:Nat→AV)(x0:AV)(H:Heap)(Q:AV→Heap→Prop):Prop :=
 doW (Zc H 1 38 x0) fun v1 H1 =>
 doQ (Zd 38 v1 5) fun v2 =>
 doQ (Zb H1 29 v2) fun v3 =>
 doW (Za false H1 5 185 []) fun v4 H2 =>
 doQ (Zm 29 4 5 v3 v4) fun v5 =>
 Q v5 H2
theorem B0(x0:AV)(H:Heap)(Q:AV→Heap→Prop)(h : ∀g,vK g x0 H Q):GoL env Tryz.f184 0 [.code vA] [(0,x0)] H Q:=⟨fun g=>aJ (live:=Cx) (cut:=CS) (n:=500) (Eq.mp (by kernel_rfl) (h g))⟩
noncomputable def vx:Code:=(Tryz.f186.body).getD .skip
def Cw:Nat→Option (List Nat):=fun i=>none
def CR:Nat→Bool:=fun i=>false
def fb(g:Nat→AV)(x0 x1:AV)(H:Heap)(Q:AV→Heap→Prop):Prop :=
 doW (Zc H 2 38 x0) fun v1 H1 =>
 doQ (Zd 38 v1 4) fun v2 =>
 doQ (Zb H1 33 v2) fun v3 =>
 doQ (ZS 33) fun v4 =>
 doQ (Zm 33 6 7 v3 v4) fun v5 =>
 gQ v5 false (Zd 38 v1 4) fun v6 =>
 gQ v5 false (Zb H1 33 v6) fun v7 =>
 gW v5 false H1 (Za true H1 12 182 [v7]) fun v8 H2 =>
 gQ v5 false (Zi 42 12 0 v8) fun v9 =>
 doQ (Zo v5 v9) fun v10 =>
 doQ (Zb H2 137 x1) fun v11 =>
 doQ (Zb H2 38 v1) fun v12 =>
 doW (ZG H2 17 v11 v12) fun v13 H3 =>
 gQ v13 true (ZI v10) fun v14 =>
 doQ (Zf v13 v14) fun v15 =>
 gQ v15 true (Zd 38 v1 3) fun v16 =>
 gQ v15 true (Zd 35 v16 0) fun v17 =>
 gQ v15 true (Zd 33 v17 0) fun v18 =>
 gQ v15 true (Zb H3 31 v18) fun v19 =>
 gQ v15 true (Zd 38 v1 1) fun v20 =>
 gQ v15 true (Zb H3 31 v20) fun v21 =>
 gQ v15 true (Zm 31 25 27 v19 v21) fun v22 =>
 doQ (Zf v15 v22) fun v23 =>
 gQ v23 true (Zd 38 v1 6) fun v24 =>
 gQ v23 true (Zb H3 36 v24) fun v25 =>
 gQ v23 true (Zk H3 33 36 v25) fun v26 =>
 gQ v23 true (Zd 38 v1 3) fun v27 =>
 gQ v23 true (Zd 35 v27 1) fun v28 =>
 gQ v23 true (Zb H3 3 v28) fun v29 =>
 gQ v23 true (Zm 3 33 36 v26 v29) fun v30 =>
 doQ (Zf v23 v30) fun v31 =>
 gQ v31 true (Zd 38 v1 6) fun v32 =>
 gQ v31 true (Zb H3 36 v32) fun v33 =>
 gW v31 true H3 (Za true H3 42 187 [v33]) fun v34 H4 =>
 gQ v31 true (Zi 42 42 0 v34) fun v35 =>
 doQ (Zf v31 v35) fun v36 =>
 Q v36 H4
theorem BZ(x0 x1:AV)(H:Heap)(Q:AV→Heap→Prop)(h : ∀g,fb g x0 x1 H Q):GoL env Tryz.f186 0 [.code vx] [(0,x0),(1,x1)] H Q:=⟨fun g=>aJ (live:=Cw) (cut:=CR) (n:=500) (Eq.mp (by kernel_rfl) (h g))⟩
noncomputable def vw:Code:=(Tryz.f189.body).getD .skip
def Cv:Nat→Option (List Nat):=fun i=>none
def CQ:Nat→Bool:=fun i=>false
def vJ(g:Nat→AV)(x0 x1 x2:AV)(H:Heap)(Q:AV→Heap→Prop):Prop :=
 doW (Zc H 3 38 x0) fun v1 H1 =>
 doQ (Zb H1 137 x1) fun v2 =>
 doQ (Zb H1 38 v1) fun v3 =>
 doW (ZG H1 7 v2 v3) fun v4 H2 =>
 gQ v4 true (Zb H2 137 x2) fun v5 =>
 gQ v4 true (Zb H2 38 v1) fun v6 =>
 gW v4 true H2 (ZG H2 11 v5 v6) fun v7 H3 =>
 doQ (Zf v4 v7) fun v8 =>
 Q v8 H3
theorem BY(x0 x1 x2:AV)(H:Heap)(Q:AV→Heap→Prop)(h : ∀g,vJ g x0 x1 x2 H Q):GoL env Tryz.f189 0 [.code vw] [(0,x0),(1,x1),(2,x2)] H Q:=⟨fun g=>aJ (live:=Cv) (cut:=CQ) (n:=500) (Eq.mp (by kernel_rfl) (h g))⟩
noncomputable def vv:Code:=(Tryz.f191.body).getD .skip
def Cu:Nat→Option (List Nat):=fun i=>none
def CP:Nat→Bool:=fun i=>false
def vI(g:Nat→AV)(x0 x1:AV)(H:Heap)(Q:AV→Heap→Prop):Prop :=
 doW (Zc H 2 38 x0) fun v1 H1 =>
 doQ (Zb H1 137 x1) fun v2 =>
 doQ (Zb H1 38 v1) fun v3 =>
 doW (ZG H1 6 v2 v3) fun v4 H2 =>
 gQ v4 true (Zd 38 v1 5) fun v5 =>
 gQ v4 true (Zb H2 29 v5) fun v6 =>
 gW v4 true H2 (Za true H2 10 76 [v6]) fun v7 H3 =>
 gQ v4 true (Zi 42 10 0 v7) fun v8 =>
 doQ (Zf v4 v8) fun v9 =>
 Q v9 H3
theorem BX(x0 x1:AV)(H:Heap)(Q:AV→Heap→Prop)(h : ∀g,vI g x0 x1 H Q):GoL env Tryz.f191 0 [.code vv] [(0,x0),(1,x1)] H Q:=⟨fun g=>aJ (live:=Cu) (cut:=CP) (n:=500) (Eq.mp (by kernel_rfl) (h g))⟩
noncomputable def BM:Code:=(Tryz.f211.body).getD .skip
def Hk:Nat→Option (List Nat):=fun i=>none
def HH:Nat→Bool:=fun i=>false
def kB(g:Nat→AV)(x0 x1:AV)(H:Heap)(Q:AV→Heap→Prop):Prop :=
 doW (Zc H 2 38 x0) fun v1 H1 =>
 doW (Zc H1 3 38 x1) fun v2 H2 =>
 doQ (Zb H2 38 v1) fun v3 =>
 doQ (Zb H2 38 v2) fun v4 =>
 doW (Zg H2 5 38) fun v5 H3 =>
 doW (Zg H3 6 38) fun v6 H4 =>
 doW (Zl H4 38 v5 v3) fun v7 H5 =>
 doW (Zl H5 38 v6 v4) fun v8 H6 =>
  jn [(v2,v5)] [v5,v6] [] H6 ∧
 (doQ (Zd 38 v5 0) fun v9 =>
 doQ (Zb H6 5 v9) fun v10 =>
 doQ (Zd 38 v6 0) fun v11 =>
 doQ (Zb H6 5 v11) fun v12 =>
 doQ (Zm 5 10 12 v10 v12) fun v13 =>
 gQ v13 true (Zd 38 v5 1) fun v14 =>
 gQ v13 true (Zb H6 31 v14) fun v15 =>
 gQ v13 true (Zd 38 v6 1) fun v16 =>
 gQ v13 true (Zb H6 31 v16) fun v17 =>
 gQ v13 true (Zm 31 16 18 v15 v17) fun v18 =>
 doQ (Zf v13 v18) fun v19 =>
 gQ v19 true (Zd 38 v5 2) fun v20 =>
 gQ v19 true (Zb H6 3 v20) fun v21 =>
 gQ v19 true (Zd 38 v6 2) fun v22 =>
 gQ v19 true (Zb H6 3 v22) fun v23 =>
 gQ v19 true (Zm 3 23 25 v21 v23) fun v24 =>
 doQ (Zf v19 v24) fun v25 =>
 gQ v25 true (Zd 38 v5 3) fun v26 =>
 gQ v25 true (Zb H6 35 v26) fun v27 =>
 gQ v25 true (Zd 38 v6 3) fun v28 =>
 gQ v25 true (Zb H6 35 v28) fun v29 =>
 gQ v25 true (Zm 35 30 32 v27 v29) fun v30 =>
 doQ (Zf v25 v30) fun v31 =>
 gQ v31 true (Zd 38 v5 4) fun v32 =>
 gQ v31 true (Zb H6 33 v32) fun v33 =>
 gQ v31 true (Zd 38 v6 4) fun v34 =>
 gQ v31 true (Zb H6 33 v34) fun v35 =>
 gQ v31 true (Zm 33 37 39 v33 v35) fun v36 =>
 doQ (Zf v31 v36) fun v37 =>
 gQ v37 true (Zd 38 v5 5) fun v38 =>
 gQ v37 true (Zb H6 29 v38) fun v39 =>
 gQ v37 true (Zd 38 v6 5) fun v40 =>
 gQ v37 true (Zb H6 29 v40) fun v41 =>
 gQ v37 true (Zm 29 44 46 v39 v41) fun v42 =>
 doQ (Zf v37 v42) fun v43 =>
 gQ v43 true (Zd 38 v5 6) fun v44 =>
 gQ v43 true (Zb H6 36 v44) fun v45 =>
 gQ v43 true (Zd 38 v6 6) fun v46 =>
 gQ v43 true (Zb H6 36 v46) fun v47 =>
 gW v43 true H6 (Za true H6 54 226 [v45,v47]) fun v48 H7 =>
 doQ (Zf v43 v48) fun v49 =>
 Q v49 H7)
theorem GO(x0 x1:AV)(H:Heap)(Q:AV→Heap→Prop)(h : ∀g,kB g x0 x1 H Q):GoL env Tryz.f211 0 [.code BM] [(0,x0),(1,x1)] H Q:=⟨fun g=>aJ (live:=Hk) (cut:=HH) (n:=500) (Eq.mp (by kernel_rfl) (h g))⟩
end Go.Proofs.YtmkmimgokagimaaGreat
