/-
  What is to be shown of each function, computed from its code. No statement of a seat is proved here.
-/
import Derived.Test.YtmkmimgokagimaaGreatLeTy
set_option linter.unusedVariables false
set_option maxRecDepth 1000000
namespace Go.Proofs.YtmkmimgokagimaaGreat
open Go.Ab
noncomputable def jh:Code:=(Tryz.f49.body).getD .skip
def CB:Nat→Option (List Nat):=fun i=>none
def CW:Nat→Bool:=fun i=>false
def ji(g:Nat→AV)(x0 x1 x2 x3:AV)(H:Heap)(Q:AV→Heap→Prop):Prop :=
 doW (Zc H 4 25 x0) fun v1 H1 =>
 doW (Zc H1 6 31 x2) fun v2 H2 =>
 doW (Zc H2 7 3 x3) fun v3 H3 =>
 doW (Zg H3 8 107) fun v4 H4 =>
 doQ (Zb H4 25 v1) fun v5 =>
 doQ (Zb H4 31 v2) fun v6 =>
 doW (Za true H4 17 111 [v5,x1,v6]) fun v7 H5 =>
 doQ (Zw v7 0) fun v8 =>
 doQ (Zw v7 1) fun v9 =>
 doW (Zg H5 10 185) fun v10 H6 =>
 doW (Zl H6 185 v10 v8) fun v11 H7 =>
 doQ (Zi 42 20 0 v9) fun v12 =>
 gQ v12 true (Zb H7 3 v3) fun v13 =>
 gQ v12 true (Zs 3 23 0 v13) fun v14 =>
 gQ v12 true (ZI v14) fun v15 =>
 gQ v15 false (Zb H7 3 v3) fun v16 =>
 gQ v15 false (Zr 3 26 255 v16) fun v17 =>
 gQ v12 true (Zo v15 v17) fun v18 =>
 doQ (Zf v12 v18) fun v19 =>
 br (some v19) (
 doQ (qBin env.P .neq 42 (Operand.tmp 30) (Operand.const (Value.int IntKind.i64 0)) (some (AV.v (Value.int IntKind.i64 8))) (some (AV.v (Value.int IntKind.i64 0)))) fun v20 =>
 br (some v20) (
 doQ (ZS 107) fun v21 =>
 doW (Zl H7 107 v4 v21) fun v22 H8 =>
 doQ (ZV H8 v4 107) fun v23 =>
 Q (.tup [v23,(.v (.int .i64 8))]) H8) (
 doQ (Zb H7 185 v10) fun v21 =>
 doQ (Zb H7 3 v3) fun v22 =>
 doQ (Zd 31 v2 0) fun v23 =>
 doQ (Zb H7 29 v23) fun v24 =>
 doW (Za true H7 38 112 [v21,v22,v24]) fun v25 H8 =>
 doW (Zg H8 12 4) fun v26 H9 =>
 doW (Zl H9 4 v26 v25) fun v27 H10 =>
 doQ (gI (.func 114) (some []) (some [v26,v10,v3])) fun v28 =>
 doW (Za true H10 40 115 [(.v (.int .i64 230))]) fun v29 H11 =>
 doQ (ZP 193 0 v28 1 v29) fun v30 =>
 doQ (gI (.func 116) (some []) (some [v10])) fun v31 =>
 doW (Za true H11 43 115 [(.v (.int .i64 0))]) fun v32 H12 =>
 doQ (ZP 193 0 v31 1 v32) fun v33 =>
 doQ (gI (.func 117) (some []) (some [v10])) fun v34 =>
 doW (Za true H12 46 115 [(.v (.int .i64 9))]) fun v35 H13 =>
 doQ (ZP 193 0 v34 1 v35) fun v36 =>
 doQ (gI (.func 119) (some []) (some [v3,v2])) fun v37 =>
 doQ (Yb 193 1 v37) fun v38 =>
 doW (gm env.P false true H13 (Ref.mk 0 50 (Heap.gen H13 0 50) 0) 235 4 (some [(0,v30),(1,v33),(2,v36),(3,v38)])) fun v39 H14 =>
 doW (Za true H14 51 113 [v39]) fun v40 H15 =>
 doW (Zl H15 107 v4 v40) fun v41 H16 =>
 doQ (ZV H16 v4 107) fun v42 =>
 Q (.tup [v42,(.v (.int .i64 0))]) H16)) (
 doQ (Ze 42 30 0 v9) fun v20 =>
 br (some v20) (
 doQ (ZS 107) fun v21 =>
 doW (Zl H7 107 v4 v21) fun v22 H8 =>
 doQ (ZV H8 v4 107) fun v23 =>
 Q (.tup [v23,v9]) H8) (
 doQ (Zb H7 185 v10) fun v21 =>
 doQ (Zb H7 3 v3) fun v22 =>
 doQ (Zd 31 v2 0) fun v23 =>
 doQ (Zb H7 29 v23) fun v24 =>
 doW (Za true H7 38 112 [v21,v22,v24]) fun v25 H8 =>
 doW (Zg H8 12 4) fun v26 H9 =>
 doW (Zl H9 4 v26 v25) fun v27 H10 =>
 doQ (gI (.func 114) (some []) (some [v26,v10,v3])) fun v28 =>
 doW (Za true H10 40 115 [(.v (.int .i64 230))]) fun v29 H11 =>
 doQ (ZP 193 0 v28 1 v29) fun v30 =>
 doQ (gI (.func 116) (some []) (some [v10])) fun v31 =>
 doW (Za true H11 43 115 [(.v (.int .i64 0))]) fun v32 H12 =>
 doQ (ZP 193 0 v31 1 v32) fun v33 =>
 doQ (gI (.func 117) (some []) (some [v10])) fun v34 =>
 doW (Za true H12 46 115 [(.v (.int .i64 9))]) fun v35 H13 =>
 doQ (ZP 193 0 v34 1 v35) fun v36 =>
 doQ (gI (.func 119) (some []) (some [v3,v2])) fun v37 =>
 doQ (Yb 193 1 v37) fun v38 =>
 doW (gm env.P false true H13 (Ref.mk 0 50 (Heap.gen H13 0 50) 0) 235 4 (some [(0,v30),(1,v33),(2,v36),(3,v38)])) fun v39 H14 =>
 doW (Za true H14 51 113 [v39]) fun v40 H15 =>
 doW (Zl H15 107 v4 v40) fun v41 H16 =>
 doQ (ZV H16 v4 107) fun v42 =>
 Q (.tup [v42,(.v (.int .i64 0))]) H16))
theorem kM(x0 x1 x2 x3:AV)(H:Heap)(Q:AV→Heap→Prop)(h : ∀g,ji g x0 x1 x2 x3 H Q):GoL env Tryz.f49 0 [.code jh] [(0,x0),(1,x1),(2,x2),(3,x3)] H Q:=⟨fun g=>aJ (live:=CB) (cut:=CW) (n:=500) (Eq.mp (by kernel_rfl) (h g))⟩
noncomputable def gB:Code:=(Tryz.f52.body).getD .skip
def zD:Nat→Option (List Nat):=fun i=>none
def Ac:Nat→Bool:=fun i=>false
def gH(g:Nat→AV)(x0 x1 x2 x3:AV)(H:Heap)(Q:AV→Heap→Prop):Prop :=
 doW (Zc H 4 25 x0) fun v1 H1 =>
 doW (Zc H1 5 26 x1) fun v2 H2 =>
 doW (Zc H2 6 31 x2) fun v3 H3 =>
 doW (Zc H3 7 38 x3) fun v4 H4 =>
 doW (Zg H4 8 107) fun v5 H5 =>
 doQ (Zb H5 25 v1) fun v6 =>
 doQ (Zb H5 26 v2) fun v7 =>
 doQ (Zb H5 31 v3) fun v8 =>
 doW (Za true H5 16 111 [v6,v7,v8]) fun v9 H6 =>
 doQ (Zw v9 0) fun v10 =>
 doQ (Zw v9 1) fun v11 =>
 doW (Zg H6 10 185) fun v12 H7 =>
 doW (Zl H7 185 v12 v10) fun v13 H8 =>
 doQ (Zi 42 19 0 v11) fun v14 =>
 br (some v14) (
 doQ (Zb H8 38 v4) fun v15 =>
 doW (Za true H8 22 70 [v15]) fun v16 H9 =>
 doQ (Ze 42 23 0 v16) fun v17 =>
 br (some v17) (
 doQ (ZS 107) fun v18 =>
 doW (Zl H9 107 v5 v18) fun v19 H10 =>
 doQ (ZV H10 v5 107) fun v20 =>
 Q (.tup [v20,v16]) H10) (
 doQ (gI (.func 120) (some []) (some [v4,v3])) fun v18 =>
 doW (Za true H9 28 115 [(.v (.int .i64 8))]) fun v19 H10 =>
 doQ (ZP 193 0 v18 1 v19) fun v20 =>
 doQ (gI (.func 122) (some []) (some [v12,v3])) fun v21 =>
 doW (Za true H10 31 115 [(.v (.int .i64 230))]) fun v22 H11 =>
 doQ (ZP 193 0 v21 1 v22) fun v23 =>
 doQ (gI (.func 123) (some []) (some [v4,v12])) fun v24 =>
 doQ (gI (.func 124) (some []) (some [v1,v2,v3,v4])) fun v25 =>
 doQ (ZP 193 0 v24 1 v25) fun v26 =>
 doQ (gI (.func 125) (some []) (some [v4,v12])) fun v27 =>
 doW (Za true H11 37 115 [(.v (.int .i64 231))]) fun v28 H12 =>
 doQ (ZP 193 0 v27 1 v28) fun v29 =>
 doQ (gI (.func 126) (some []) (some [v12])) fun v30 =>
 doW (Za true H12 40 115 [(.v (.int .i64 9))]) fun v31 H13 =>
 doQ (ZP 193 0 v30 1 v31) fun v32 =>
 doQ (gI (.func 127) (some []) (some [v1,v2,v4])) fun v33 =>
 doQ (Yb 193 1 v33) fun v34 =>
 doW (gm env.P false true H13 (Ref.mk 0 44 (Heap.gen H13 0 44) 0) 235 6 (some [(0,v20),(1,v23),(2,v26),(3,v29),(4,v32),(5,v34)])) fun v35 H14 =>
 doW (Za true H14 45 113 [v35]) fun v36 H15 =>
 doW (Zl H15 107 v5 v36) fun v37 H16 =>
 doQ (ZV H16 v5 107) fun v38 =>
 Q (.tup [v38,(.v (.int .i64 0))]) H16)) (
 doQ (Ze 42 23 0 v11) fun v15 =>
 br (some v15) (
 doQ (ZS 107) fun v16 =>
 doW (Zl H8 107 v5 v16) fun v17 H9 =>
 doQ (ZV H9 v5 107) fun v18 =>
 Q (.tup [v18,v11]) H9) (
 doQ (gI (.func 120) (some []) (some [v4,v3])) fun v16 =>
 doW (Za true H8 28 115 [(.v (.int .i64 8))]) fun v17 H9 =>
 doQ (ZP 193 0 v16 1 v17) fun v18 =>
 doQ (gI (.func 122) (some []) (some [v12,v3])) fun v19 =>
 doW (Za true H9 31 115 [(.v (.int .i64 230))]) fun v20 H10 =>
 doQ (ZP 193 0 v19 1 v20) fun v21 =>
 doQ (gI (.func 123) (some []) (some [v4,v12])) fun v22 =>
 doQ (gI (.func 124) (some []) (some [v1,v2,v3,v4])) fun v23 =>
 doQ (ZP 193 0 v22 1 v23) fun v24 =>
 doQ (gI (.func 125) (some []) (some [v4,v12])) fun v25 =>
 doW (Za true H10 37 115 [(.v (.int .i64 231))]) fun v26 H11 =>
 doQ (ZP 193 0 v25 1 v26) fun v27 =>
 doQ (gI (.func 126) (some []) (some [v12])) fun v28 =>
 doW (Za true H11 40 115 [(.v (.int .i64 9))]) fun v29 H12 =>
 doQ (ZP 193 0 v28 1 v29) fun v30 =>
 doQ (gI (.func 127) (some []) (some [v1,v2,v4])) fun v31 =>
 doQ (Yb 193 1 v31) fun v32 =>
 doW (gm env.P false true H12 (Ref.mk 0 44 (Heap.gen H12 0 44) 0) 235 6 (some [(0,v18),(1,v21),(2,v24),(3,v27),(4,v30),(5,v32)])) fun v33 H13 =>
 doW (Za true H13 45 113 [v33]) fun v34 H14 =>
 doW (Zl H14 107 v5 v34) fun v35 H15 =>
 doQ (ZV H15 v5 107) fun v36 =>
 Q (.tup [v36,(.v (.int .i64 0))]) H15))
theorem iL(x0 x1 x2 x3:AV)(H:Heap)(Q:AV→Heap→Prop)(h : ∀g,gH g x0 x1 x2 x3 H Q):GoL env Tryz.f52 0 [.code gB] [(0,x0),(1,x1),(2,x2),(3,x3)] H Q:=⟨fun g=>aJ (live:=zD) (cut:=Ac) (n:=500) (Eq.mp (by kernel_rfl) (h g))⟩
noncomputable def lH:Code:=(Tryz.f61.body).getD .skip
def qi:Nat→Option (List Nat):=fun i=>none
def qp:Nat→Bool:=fun i=>false
def lN(g:Nat→AV)(x0 x1:AV)(H:Heap)(Q:AV→Heap→Prop):Prop :=
 doW (Zc H 2 107 x0) fun v1 H1 =>
 doW (Zc H1 3 107 x1) fun v2 H2 =>
 doQ (Zd 107 v1 0) fun v3 =>
 doQ (Zb H2 42 v3) fun v4 =>
 doQ (Zd 107 v2 0) fun v5 =>
 doQ (Zb H2 42 v5) fun v6 =>
 doQ (Zm 42 6 8 v4 v6) fun v7 =>
 gQ v7 true (Zd 107 v1 1) fun v8 =>
 gQ v7 true (Zb H2 4 v8) fun v9 =>
 gQ v7 true (Zd 107 v2 1) fun v10 =>
 gQ v7 true (Zb H2 4 v10) fun v11 =>
 gQ v7 true (Zm 4 12 14 v9 v11) fun v12 =>
 doQ (Zf v7 v12) fun v13 =>
 gQ v13 true (Zd 107 v1 2) fun v14 =>
 gQ v13 true (Zb H2 62 v14) fun v15 =>
 gQ v13 true (Zd 107 v2 2) fun v16 =>
 gQ v13 true (Zb H2 62 v16) fun v17 =>
 gW v13 true H2 (Za true H2 22 80 [v15,v17]) fun v18 H3 =>
 doQ (Zf v13 v18) fun v19 =>
 Q v19 H3
theorem pZ(x0 x1:AV)(H:Heap)(Q:AV→Heap→Prop)(h : ∀g,lN g x0 x1 H Q):GoL env Tryz.f61 0 [.code lH] [(0,x0),(1,x1)] H Q:=⟨fun g=>aJ (live:=qi) (cut:=qp) (n:=500) (Eq.mp (by kernel_rfl) (h g))⟩
noncomputable def qA:Code:=(Tryz.f111.body).getD .skip
def EZ:Nat→Option (List Nat):=fun i=>none
def Ft:Nat→Bool:=fun i=>false
def qH(g:Nat→AV)(x0 x1 x2:AV)(H:Heap)(Q:AV→Heap→Prop):Prop :=
 doW (Zc H 3 25 x0) fun v1 H1 =>
 doW (Zc H1 5 31 x2) fun v2 H2 =>
 doW (Zg H2 6 185) fun v3 H3 =>
 doQ (Zb H3 25 v1) fun v4 =>
 doQ (Zb H3 31 v2) fun v5 =>
 doW (Za true H3 12 27 [v4,x1,v5]) fun v6 H4 =>
 doQ (Zw v6 0) fun v7 =>
 doQ (Zw v6 1) fun v8 =>
 doQ (Zd 185 v3 0) fun v9 =>
 doW (Zl H4 73 v9 v7) fun v10 H5 =>
 doQ (Ze 42 16 0 v8) fun v11 =>
 br (some v11) (
 doQ (ZS 185) fun v12 =>
 doW (Zl H5 185 v3 v12) fun v13 H6 =>
 doQ (ZV H6 v3 185) fun v14 =>
 Q (.tup [v14,v8]) H6) (
 doQ (Zb H5 25 v1) fun v12 =>
 doW (Za true H5 23 25 [v12,x1]) fun v13 H6 =>
 doQ (Zw v13 0) fun v14 =>
 doQ (Zw v13 1) fun v15 =>
 doQ (Zd 185 v3 1) fun v16 =>
 doW (Zl H6 25 v16 v14) fun v17 H7 =>
 doQ (Zb H7 25 v1) fun v18 =>
 doQ (Zd 31 v2 0) fun v19 =>
 doQ (Zb H7 29 v19) fun v20 =>
 doW (Za true H7 32 31 [v18,x1,v20]) fun v21 H8 =>
 doQ (Zw v21 0) fun v22 =>
 doQ (Zw v21 1) fun v23 =>
 doQ (Zd 185 v3 2) fun v24 =>
 doW (Zl H8 81 v24 v22) fun v25 H9 =>
 doQ (Zb H9 25 v1) fun v26 =>
 doQ (Zd 31 v2 0) fun v27 =>
 doQ (Zb H9 29 v27) fun v28 =>
 doW (Za true H9 40 44 [v26,v28]) fun v29 H10 =>
 doQ (Zw v29 0) fun v30 =>
 doQ (Zw v29 1) fun v31 =>
 doQ (Zd 185 v3 3) fun v32 =>
 doW (Zl H10 81 v32 v30) fun v33 H11 =>
 doQ (Zb H11 185 v3) fun v34 =>
 doW (Zl H11 185 v3 v34) fun v35 H12 =>
 doQ (ZV H12 v3 185) fun v36 =>
 Q (.tup [v36,(.v (.int .i64 0))]) H12)
theorem tV(x0 x1 x2:AV)(H:Heap)(Q:AV→Heap→Prop)(h : ∀g,qH g x0 x1 x2 H Q):GoL env Tryz.f111 0 [.code qA] [(0,x0),(1,x1),(2,x2)] H Q:=⟨fun g=>aJ (live:=EZ) (cut:=Ft) (n:=500) (Eq.mp (by kernel_rfl) (h g))⟩
noncomputable def gC:Code:=(Tryz.f112.body).getD .skip
def lZ:Nat→Option (List Nat):=fun i=>none
def mb:Nat→Bool:=fun i=>false
def ed(g:Nat→AV)(x0 x1 x2:AV)(H:Heap)(Q:AV→Heap→Prop):Prop :=
 doW (Zc H 3 185 x0) fun v1 H1 =>
 doW (Zc H1 5 29 x2) fun v2 H2 =>
 doQ (Zd 185 v1 1) fun v3 =>
 doQ (Zb H2 25 v3) fun v4 =>
 doQ (Zb H2 29 v2) fun v5 =>
 doW (Za true H2 14 174 [v4,x1,v5]) fun v6 H3 =>
 doQ (Zw v6 0) fun v7 =>
 doQ (Zw v6 1) fun v8 =>
 doQ (Zi 42 17 0 v8) fun v9 =>
 gQ v9 true (ZI v7) fun v10 =>
 doQ (Zf v9 v10) fun v11 =>
 Q v11 H3
theorem lW(x0 x1 x2:AV)(H:Heap)(Q:AV→Heap→Prop)(h : ∀g,ed g x0 x1 x2 H Q):GoL env Tryz.f112 0 [.code gC] [(0,x0),(1,x1),(2,x2)] H Q:=⟨fun g=>aJ (live:=lZ) (cut:=mb) (n:=500) (Eq.mp (by kernel_rfl) (h g))⟩
noncomputable def mm:Code:=(Tryz.f113.body).getD .skip
noncomputable def mL:List Item:=(bS 2 400 [.code mm]).getD []
def tp:Nat→Option (List Nat):=fun i=>cond (Nat.beq i 2) (some [2,7,5,6]) (none)
def tw:Nat→Bool:=fun i=>false
def oM(g:Nat→AV)(x0:AV)(H:Heap)(Q:AV→Heap→Prop):Prop :=
 doW (Zg H 2 107) fun v1 H1 =>
 doQ (Zk H1 6 235 x0) fun v2 =>
  GoL env Tryz.f113 0 mL [(2,v1),(7,(.v (.int .i64 0))),(5,x0),(6,v2)] H1 Q
theorem tj(x0:AV)(H:Heap)(Q:AV→Heap→Prop)(h : ∀g,oM g x0 H Q):GoL env Tryz.f113 0 [.code mm] [(0,x0)] H Q:=⟨fun g=>aJ (live:=tp) (cut:=tw) (n:=500) (Eq.mp (by kernel_rfl) (h g))⟩
def bl(g:Nat→AV)(x2 x7 x5 x6:AV)(H:Heap)(Q:AV→Heap→Prop):Prop :=
 doQ (Zp 3 7 6 x7 x6) fun v1 =>
 br (some v1) (
 doQ (Zu H 235 x5 x7) fun v2 =>
 doQ (Zb H 193 v2) fun v3 =>
 doW (Zg H 4 193) fun v4 H1 =>
 doW (Zl H1 193 v4 v3) fun v5 H2 =>
 doQ (Zd 193 v4 0) fun v6 =>
 doQ (Zb H2 90 v6) fun v7 =>
 doW (Yg H2 13 v7) fun v8 H3 =>
 br (some v8) (
 doQ (Zd 193 v4 1) fun v9 =>
 doQ (Zb H3 190 v9) fun v10 =>
 doW (Yg H3 16 v10) fun v11 H4 =>
 doW (Zl H4 107 x2 v11) fun v12 H5 =>
 doQ (ZV H5 x2 107) fun v13 =>
 Q v13 H5) (
 doQ (Zh 3 7 1 x7) fun v9 =>
  GoL env Tryz.f113 0 mL [(2,x2),(7,v9),(5,x5),(6,x6)] H3 Q)) (
 doQ (ZS 107) fun v2 =>
 doW (Zl H 107 x2 v2) fun v3 H1 =>
 doQ (ZV H1 x2 107) fun v4 =>
 Q v4 H1)
theorem cY(x2 x7 x5 x6:AV)(H:Heap)(Q:AV→Heap→Prop)(h : ∀g,bl g x2 x7 x5 x6 H Q):GoL env Tryz.f113 0 mL [(2,x2),(7,x7),(5,x5),(6,x6)] H Q:=dk fun g=>aJ (live:=tp) (cut:=tw) (n:=500) (Eq.mp (by kernel_rfl) (h g))
noncomputable def rZ:Code:=(Tryz.f114.body).getD .skip
def zH:Nat→Option (List Nat):=fun i=>none
def Ag:Nat→Bool:=fun i=>false
def sH(g:Nat→AV)(x0 x1 x2:AV)(H:Heap)(Q:AV→Heap→Prop):Prop :=
 doQ (Zb H 4 x0) fun v1 =>
 doQ (Zz v1) fun v2 =>
 gQ v2 false (Zd 185 x1 0) fun v3 =>
 gQ v2 false (Zd 73 v3 0) fun v4 =>
 gQ v2 false (Zb H 4 v4) fun v5 =>
 gQ v2 false (ZI v5) fun v6 =>
 gQ v6 true (Zd 185 x1 0) fun v7 =>
 gQ v6 true (Zd 73 v7 1) fun v8 =>
 gQ v6 true (Zb H 3 v8) fun v9 =>
 gQ v6 true (Zb H 3 x2) fun v10 =>
 gQ v6 true (ZB 3 13 14 v9 v10) fun v11 =>
 gQ v2 false (Zf v6 v11) fun v12 =>
 doQ (Zo v2 v12) fun v13 =>
 Q v13 H
theorem yU(x0 x1 x2:AV)(H:Heap)(Q:AV→Heap→Prop)(h : ∀g,sH g x0 x1 x2 H Q):GoL env Tryz.f114 0 [.code rZ] [(0,x0),(1,x1),(2,x2)] H Q:=⟨fun g=>aJ (live:=zH) (cut:=Ag) (n:=500) (Eq.mp (by kernel_rfl) (h g))⟩
noncomputable def vE:Code:=(Tryz.f115.body).getD .skip
def CA:Nat→Option (List Nat):=fun i=>none
def CV:Nat→Bool:=fun i=>false
def vM(g:Nat→AV)(x0:AV)(H:Heap)(Q:AV→Heap→Prop):Prop :=
 doW (Zc H 1 42 x0) fun v1 H1 =>
 doQ (gI (.func 175) (some []) (some [v1])) fun v2 =>
 Q v2 H1
theorem B5(x0:AV)(H:Heap)(Q:AV→Heap→Prop)(h : ∀g,vM g x0 H Q):GoL env Tryz.f115 0 [.code vE] [(0,x0)] H Q:=⟨fun g=>aJ (live:=CA) (cut:=CV) (n:=500) (Eq.mp (by kernel_rfl) (h g))⟩
noncomputable def rY:Code:=(Tryz.f116.body).getD .skip
def zG:Nat→Option (List Nat):=fun i=>none
def Af:Nat→Bool:=fun i=>false
def sG(g:Nat→AV)(x0:AV)(H:Heap)(Q:AV→Heap→Prop):Prop :=
 doQ (Zd 185 x0 0) fun v1 =>
 doQ (Zd 73 v1 0) fun v2 =>
 doQ (Zb H 4 v2) fun v3 =>
 Q v3 H
theorem yT(x0:AV)(H:Heap)(Q:AV→Heap→Prop)(h : ∀g,sG g x0 H Q):GoL env Tryz.f116 0 [.code rY] [(0,x0)] H Q:=⟨fun g=>aJ (live:=zG) (cut:=Af) (n:=500) (Eq.mp (by kernel_rfl) (h g))⟩
noncomputable def rX:Code:=(Tryz.f117.body).getD .skip
def zF:Nat→Option (List Nat):=fun i=>none
def Ae:Nat→Bool:=fun i=>false
def sF(g:Nat→AV)(x0:AV)(H:Heap)(Q:AV→Heap→Prop):Prop :=
 doQ (Zd 185 x0 2) fun v1 =>
 doQ (Zd 81 v1 1) fun v2 =>
 doQ (Zb H 3 v2) fun v3 =>
 doQ (Zd 185 x0 3) fun v4 =>
 doQ (Zd 81 v4 1) fun v5 =>
 doQ (Zb H 3 v5) fun v6 =>
 doQ (ZO 3 4 7 v3 v6) fun v7 =>
 Q v7 H
theorem yS(x0:AV)(H:Heap)(Q:AV→Heap→Prop)(h : ∀g,sF g x0 H Q):GoL env Tryz.f117 0 [.code rX] [(0,x0)] H Q:=⟨fun g=>aJ (live:=zF) (cut:=Ae) (n:=500) (Eq.mp (by kernel_rfl) (h g))⟩
noncomputable def rV:Code:=(Tryz.f118.body).getD .skip
def zC:Nat→Option (List Nat):=fun i=>none
def Aa:Nat→Bool:=fun i=>false
def sD(g:Nat→AV)(H:Heap)(Q:AV→Heap→Prop):Prop :=
 Q (.v (.bool true)) H
theorem yQ(H:Heap)(Q:AV→Heap→Prop)(h : ∀g,sD g  H Q):GoL env Tryz.f118 0 [.code rV] [] H Q:=⟨fun g=>aJ (live:=zC) (cut:=Aa) (n:=500) (Eq.mp (by kernel_rfl) (h g))⟩
noncomputable def rW:Code:=(Tryz.f119.body).getD .skip
def zE:Nat→Option (List Nat):=fun i=>none
def Ad:Nat→Bool:=fun i=>false
def sE(g:Nat→AV)(x0 x1:AV)(H:Heap)(Q:AV→Heap→Prop):Prop :=
 doW (Zg H 2 107) fun v1 H1 =>
 doQ (Zb H1 3 x0) fun v2 =>
 doQ (Zb H1 31 x1) fun v3 =>
 doQ (Yh 38 1 v3) fun v4 =>
 doQ (bI env.P 62 (some [(0,(a8 1)),(1,v2),(2,v4)])) fun v5 =>
 doQ (bI env.P 107 (some [(1,(.v (.bool true))),(2,v5)])) fun v6 =>
 doW (Zl H1 107 v1 v6) fun v7 H2 =>
 doQ (ZV H2 v1 107) fun v8 =>
 Q v8 H2
theorem yR(x0 x1:AV)(H:Heap)(Q:AV→Heap→Prop)(h : ∀g,sE g x0 x1 H Q):GoL env Tryz.f119 0 [.code rW] [(0,x0),(1,x1)] H Q:=⟨fun g=>aJ (live:=zE) (cut:=Ad) (n:=500) (Eq.mp (by kernel_rfl) (h g))⟩
noncomputable def pI:Code:=(Tryz.f120.body).getD .skip
def wP:Nat→Option (List Nat):=fun i=>none
def xc:Nat→Bool:=fun i=>false
def gG(g:Nat→AV)(x0 x1:AV)(H:Heap)(Q:AV→Heap→Prop):Prop :=
 doQ (Zd 38 x0 1) fun v1 =>
 doQ (Zb H 31 v1) fun v2 =>
 doQ (Zb H 31 x1) fun v3 =>
 doQ (ZB 31 4 5 v2 v3) fun v4 =>
 gQ v4 false (Zb H 38 x0) fun v5 =>
 gW v4 false H (Za true H 9 121 [v5]) fun v6 H1 =>
 gQ v4 false (Zz v6) fun v7 =>
 doQ (Zo v4 v7) fun v8 =>
 Q v8 H1
theorem wg(x0 x1:AV)(H:Heap)(Q:AV→Heap→Prop)(h : ∀g,gG g x0 x1 H Q):GoL env Tryz.f120 0 [.code pI] [(0,x0),(1,x1)] H Q:=⟨fun g=>aJ (live:=wP) (cut:=xc) (n:=500) (Eq.mp (by kernel_rfl) (h g))⟩
noncomputable def pH:Code:=(Tryz.f122.body).getD .skip
def wO:Nat→Option (List Nat):=fun i=>none
def xb:Nat→Bool:=fun i=>false
def pY(g:Nat→AV)(x0 x1:AV)(H:Heap)(Q:AV→Heap→Prop):Prop :=
 doQ (Zd 185 x0 0) fun v1 =>
 doQ (Zd 73 v1 0) fun v2 =>
 doQ (Zb H 4 v2) fun v3 =>
 doQ (Zz v3) fun v4 =>
 gQ v4 false (Zb H 185 x0) fun v5 =>
 gQ v4 false (Zd 185 x0 0) fun v6 =>
 gQ v4 false (Zd 73 v6 1) fun v7 =>
 gQ v4 false (Zb H 3 v7) fun v8 =>
 gQ v4 false (Zd 31 x1 0) fun v9 =>
 gQ v4 false (Zb H 29 v9) fun v10 =>
 gW v4 false H (Za true H 14 112 [v5,v8,v10]) fun v11 H1 =>
 gQ v4 false (Zz v11) fun v12 =>
 doQ (Zo v4 v12) fun v13 =>
 Q v13 H1
theorem we(x0 x1:AV)(H:Heap)(Q:AV→Heap→Prop)(h : ∀g,pY g x0 x1 H Q):GoL env Tryz.f122 0 [.code pH] [(0,x0),(1,x1)] H Q:=⟨fun g=>aJ (live:=wO) (cut:=xb) (n:=500) (Eq.mp (by kernel_rfl) (h g))⟩
noncomputable def pG:Code:=(Tryz.f123.body).getD .skip
def wN:Nat→Option (List Nat):=fun i=>none
def xa:Nat→Bool:=fun i=>false
def pX(g:Nat→AV)(x0 x1:AV)(H:Heap)(Q:AV→Heap→Prop):Prop :=
 doQ (Zd 38 x0 2) fun v1 =>
 doQ (Zb H 3 v1) fun v2 =>
 doQ (Zd 185 x1 0) fun v3 =>
 doQ (Zd 73 v3 2) fun v4 =>
 doQ (Zb H 3 v4) fun v5 =>
 doQ (Ye 3 4 7 v2 v5) fun v6 =>
 Q v6 H
theorem wc(x0 x1:AV)(H:Heap)(Q:AV→Heap→Prop)(h : ∀g,pX g x0 x1 H Q):GoL env Tryz.f123 0 [.code pG] [(0,x0),(1,x1)] H Q:=⟨fun g=>aJ (live:=wN) (cut:=xa) (n:=500) (Eq.mp (by kernel_rfl) (h g))⟩
noncomputable def pF:Code:=(Tryz.f124.body).getD .skip
def wM:Nat→Option (List Nat):=fun i=>none
def w9:Nat→Bool:=fun i=>false
def pW(g:Nat→AV)(x0 x1 x2 x3:AV)(H:Heap)(Q:AV→Heap→Prop):Prop :=
 doW (Zg H 4 107) fun v1 H1 =>
 doQ (Zb H1 25 x0) fun v2 =>
 doQ (Zb H1 26 x1) fun v3 =>
 doQ (Zb H1 31 x2) fun v4 =>
 doQ (Zd 38 x3 2) fun v5 =>
 doQ (Zb H1 3 v5) fun v6 =>
 doW (Za true H1 13 29 [v2,v3,v4,v6]) fun v7 H2 =>
 doQ (Zw v7 0) fun v8 =>
 doQ (Zw v7 1) fun v9 =>
 doQ (Yh 107 0 v8) fun v10 =>
 doW (Zl H2 107 v1 v10) fun v11 H3 =>
 doQ (ZV H3 v1 107) fun v12 =>
 Q v12 H3
theorem wb(x0 x1 x2 x3:AV)(H:Heap)(Q:AV→Heap→Prop)(h : ∀g,pW g x0 x1 x2 x3 H Q):GoL env Tryz.f124 0 [.code pF] [(0,x0),(1,x1),(2,x2),(3,x3)] H Q:=⟨fun g=>aJ (live:=wM) (cut:=w9) (n:=500) (Eq.mp (by kernel_rfl) (h g))⟩
noncomputable def pE:Code:=(Tryz.f125.body).getD .skip
def wL:Nat→Option (List Nat):=fun i=>none
def w8:Nat→Bool:=fun i=>false
def pV(g:Nat→AV)(x0 x1:AV)(H:Heap)(Q:AV→Heap→Prop):Prop :=
 doQ (Zd 38 x0 2) fun v1 =>
 doQ (Zb H 3 v1) fun v2 =>
 doQ (Zd 185 x1 0) fun v3 =>
 doQ (Zd 73 v3 2) fun v4 =>
 doQ (Zb H 3 v4) fun v5 =>
 doQ (Zh 3 7 1 v5) fun v6 =>
 doQ (Yf 3 4 8 v2 v6) fun v7 =>
 Q v7 H
theorem wa(x0 x1:AV)(H:Heap)(Q:AV→Heap→Prop)(h : ∀g,pV g x0 x1 H Q):GoL env Tryz.f125 0 [.code pE] [(0,x0),(1,x1)] H Q:=⟨fun g=>aJ (live:=wL) (cut:=w8) (n:=500) (Eq.mp (by kernel_rfl) (h g))⟩
noncomputable def pD:Code:=(Tryz.f126.body).getD .skip
def wK:Nat→Option (List Nat):=fun i=>none
def w7:Nat→Bool:=fun i=>false
def pU(g:Nat→AV)(x0:AV)(H:Heap)(Q:AV→Heap→Prop):Prop :=
 doQ (Zd 185 x0 2) fun v1 =>
 doQ (Zd 81 v1 2) fun v2 =>
 doQ (Zb H 3 v2) fun v3 =>
 doQ (Zd 185 x0 3) fun v4 =>
 doQ (Zd 81 v4 2) fun v5 =>
 doQ (Zb H 3 v5) fun v6 =>
 doQ (ZO 3 4 7 v3 v6) fun v7 =>
 Q v7 H
theorem vZ(x0:AV)(H:Heap)(Q:AV→Heap→Prop)(h : ∀g,pU g x0 H Q):GoL env Tryz.f126 0 [.code pD] [(0,x0)] H Q:=⟨fun g=>aJ (live:=wK) (cut:=w7) (n:=500) (Eq.mp (by kernel_rfl) (h g))⟩
noncomputable def pC:Code:=(Tryz.f127.body).getD .skip
def wJ:Nat→Option (List Nat):=fun i=>none
def w6:Nat→Bool:=fun i=>false
def pT(g:Nat→AV)(x0 x1 x2:AV)(H:Heap)(Q:AV→Heap→Prop):Prop :=
 doW (Zg H 3 107) fun v1 H1 =>
 doQ (Zb H1 25 x0) fun v2 =>
 doQ (Zb H1 26 x1) fun v3 =>
 doQ (Zb H1 38 x2) fun v4 =>
 doW (Za true H1 10 17 [v2,v3,v4]) fun v5 H2 =>
 doQ (Zw v5 0) fun v6 =>
 doQ (Zw v5 1) fun v7 =>
 doQ (Zb H2 38 x2) fun v8 =>
 doW (Za true H2 15 108 [v8]) fun v9 H3 =>
 doQ (bI env.P 62 (some [(0,(a8 2)),(2,v9),(3,v6)])) fun v10 =>
 doQ (bI env.P 107 (some [(0,v6),(1,(.v (.bool true))),(2,v10)])) fun v11 =>
 doW (Zl H3 107 v1 v11) fun v12 H4 =>
 doQ (ZV H4 v1 107) fun v13 =>
 Q v13 H4
theorem vY(x0 x1 x2:AV)(H:Heap)(Q:AV→Heap→Prop)(h : ∀g,pT g x0 x1 x2 H Q):GoL env Tryz.f127 0 [.code pC] [(0,x0),(1,x1),(2,x2)] H Q:=⟨fun g=>aJ (live:=wJ) (cut:=w6) (n:=500) (Eq.mp (by kernel_rfl) (h g))⟩
noncomputable def rU:Code:=(Tryz.f175.body).getD .skip
def zB:Nat→Option (List Nat):=fun i=>none
def z9:Nat→Bool:=fun i=>false
def sC(g:Nat→AV)(x0:AV)(H:Heap)(Q:AV→Heap→Prop):Prop :=
 doW (Zg H 1 107) fun v1 H1 =>
 doQ (Zb H1 42 x0) fun v2 =>
 doQ (Yh 107 0 v2) fun v3 =>
 doW (Zl H1 107 v1 v3) fun v4 H2 =>
 doQ (ZV H2 v1 107) fun v5 =>
 Q v5 H2
theorem yP(x0:AV)(H:Heap)(Q:AV→Heap→Prop)(h : ∀g,sC g x0 H Q):GoL env Tryz.f175 0 [.code rU] [(0,x0)] H Q:=⟨fun g=>aJ (live:=zB) (cut:=z9) (n:=500) (Eq.mp (by kernel_rfl) (h g))⟩
end Go.Proofs.YtmkmimgokagimaaGreat
