/-
  What is to be shown of each function, computed from its code. No statement of a seat is proved here.
-/
import Derived.Test.YtjampffmlnplcaaRnTy
set_option linter.unusedVariables false
set_option maxRecDepth 1000000
namespace Go.Proofs.Ytjampffmlnplcaa
open Go.Ab
noncomputable def nK:Code:=(Try.f16.body).getD .skip
def rV:Nat→Option (List Nat):=fun i=>none
def sn:Nat→Bool:=fun i=>false
def fG(g:Nat→AV)(x0 x1:AV)(H:Heap)(Q:AV→Heap→Prop):Prop :=
 doW (Zc H 2 33 x0) fun v1 H1 =>
 doW (Zc H1 3 33 x1) fun v2 H2 =>
 doW (Zd H2 4 33) fun v3 H3 =>
 doQ (Zb H3 33 v1) fun v4 =>
 doW (Za false H3 12 19 [v4]) fun v5 H4 =>
 doQ (Zb H4 33 v2) fun v6 =>
 doW (Za false H4 14 19 [v6]) fun v7 H5 =>
 doQ (aX env.P true (Heap.get H5) (Ref.mk 0 15 (Heap.gen H5 0 15) 0) .max #[35,35] [v5,v7]) fun v8 =>
 doQ (Zh 35 16 0 v8) fun v9 =>
 br (some v9) (
 doQ (Zx 33) fun v10 =>
 doW (Zg H5 33 v3 v10) fun v11 H6 =>
 doQ (Zz H6 v3 33) fun v12 =>
 Q (.tup [v12,v8]) H6) (
 doQ (Zf 33 v1 0) fun v10 =>
 doQ (Zf 30 v10 0) fun v11 =>
 doQ (Zb H5 28 v11) fun v12 =>
 doQ (Zf 33 v1 0) fun v13 =>
 doQ (Zf 30 v13 1) fun v14 =>
 doQ (Zb H5 3 v14) fun v15 =>
 doQ (Zf 33 v2 0) fun v16 =>
 doQ (Zf 30 v16 1) fun v17 =>
 doQ (Zb H5 3 v17) fun v18 =>
 doQ (Zw 3 25 28 v15 v18) fun v19 =>
 doQ (ZI 30 0 v12 1 v19) fun v20 =>
 doQ (Zf 33 v1 1) fun v21 =>
 doQ (Zb H5 28 v21) fun v22 =>
 doQ (Zb H5 33 v1) fun v23 =>
 doQ (Zb H5 33 v2) fun v24 =>
 doW (ur env.P true false H5 (Ref.mk 0 35 (Heap.gen H5 0 35) 0) 156 2 (some [(0,v23),(1,v24)])) fun v25 H6 =>
 doW (Za false H6 36 72 [v25]) fun v26 H7 =>
 doQ (ZH 33 0 v20 1 v22 2 v26) fun v27 =>
 doW (Zd H7 7 33) fun v28 H8 =>
 doW (Zg H8 33 v28 v27) fun v29 H9 =>
 doQ (Zb H9 33 v28) fun v30 =>
 doQ (Zf 33 v1 0) fun v31 =>
 doQ (Zf 30 v31 1) fun v32 =>
 doQ (Zb H9 3 v32) fun v33 =>
 doW (Za true H9 43 17 [v30,v33]) fun v34 H10 =>
 doQ (ZB v34 0) fun v35 =>
 doQ (ZB v34 1) fun v36 =>
 doQ (ZB v34 2) fun v37 =>
 doW (Zd H10 8 33) fun v38 H11 =>
 doW (Zd H11 9 33) fun v39 H12 =>
 doW (Zg H12 33 v38 v35) fun v40 H13 =>
 doW (Zg H13 33 v39 v36) fun v41 H14 =>
 doQ (Zh 35 47 0 v37) fun v42 =>
 gQ v42 false (Zb H14 33 v38) fun v43 =>
 gQ v42 false (Zb H14 33 v1) fun v44 =>
 gW v42 false H14 (Za true H14 52 18 [v43,v44]) fun v45 H15 =>
 gQ v42 false (Zy v45) fun v46 =>
 doQ (Zj v42 v46) fun v47 =>
 gQ v47 false (Zb H15 33 v39) fun v48 =>
 gQ v47 false (Zb H15 33 v2) fun v49 =>
 gW v47 false H15 (Za true H15 58 18 [v48,v49]) fun v50 H16 =>
 gQ v47 false (Zy v50) fun v51 =>
 doQ (Zj v47 v51) fun v52 =>
 br (some v52) (
 doQ (Zx 33) fun v53 =>
 doW (Zg H16 33 v3 v53) fun v54 H17 =>
 doQ (Zz H17 v3 33) fun v55 =>
 Q (.tup [v55,(.v (.int .i64 2))]) H17) (
 doQ (Zb H16 33 v28) fun v53 =>
 doW (Zg H16 33 v3 v53) fun v54 H17 =>
 doQ (Zz H17 v3 33) fun v55 =>
 Q (.tup [v55,(.v (.int .i64 0))]) H17))
theorem qR(x0 x1:AV)(H:Heap)(Q:AV→Heap→Prop)(h : ∀g,fG g x0 x1 H Q):GoL env Try.f16 0 [.code nK] [(0,x0),(1,x1)] H Q:=⟨fun g=>bQ (live:=rV) (cut:=sn) (n:=500) (Eq.mp (by kernel_rfl) (h g))⟩
noncomputable def oJ:Code:=(Try.f17.body).getD .skip
def tU:Nat→Option (List Nat):=fun i=>none
def uj:Nat→Bool:=fun i=>false
def kT(g:Nat→AV)(x0 x1:AV)(H:Heap)(Q:AV→Heap→Prop):Prop :=
 doW (Zc H 2 33 x0) fun v1 H1 =>
 doW (Zd H1 4 33) fun v2 H2 =>
 doW (Zd H2 5 33) fun v3 H3 =>
 doQ (Zb H3 33 v1) fun v4 =>
 doW (Za true H3 12 19 [v4]) fun v5 H4 =>
 doQ (Zh 35 13 0 v5) fun v6 =>
 br (some v6) (
 doQ (Zb H4 33 v2) fun v7 =>
 doQ (Zb H4 33 v3) fun v8 =>
 doW (Zg H4 33 v2 v7) fun v9 H5 =>
 doW (Zg H5 33 v3 v8) fun v10 H6 =>
  jF [(v3,v2)] [v2,v3] [] H6 ∧
 (doQ (Zz H6 v2 33) fun v11 =>
 doQ (Zz H6 v3 33) fun v12 =>
 Q (.tup [v11,v12,v5]) H6)) (
 doQ (Zf 33 v1 0) fun v7 =>
 doQ (Zb H4 30 v7) fun v8 =>
 doW (Za true H4 22 73 [v8,x1]) fun v9 H5 =>
 doQ (ZB v9 0) fun v10 =>
 doQ (ZB v9 1) fun v11 =>
 doQ (ZB v9 2) fun v12 =>
 doW (Zd H5 8 30) fun v13 H6 =>
 doW (Zd H6 9 30) fun v14 H7 =>
 doW (Zg H7 30 v13 v10) fun v15 H8 =>
 doW (Zg H8 30 v14 v11) fun v16 H9 =>
 doQ (Zh 35 26 0 v12) fun v17 =>
 br (some v17) (
 doQ (Zb H9 33 v2) fun v18 =>
 doQ (Zb H9 33 v3) fun v19 =>
 doW (Zg H9 33 v2 v18) fun v20 H10 =>
 doW (Zg H10 33 v3 v19) fun v21 H11 =>
  jF [(v3,v2)] [v2,v3] [] H11 ∧
 (doQ (Zz H11 v2 33) fun v22 =>
 doQ (Zz H11 v3 33) fun v23 =>
 Q (.tup [v22,v23,v12]) H11)) (
 doQ (Zb H9 30 v13) fun v18 =>
 doQ (Zr 3 33 1 x1) fun v19 =>
 doW (Za true H9 35 74 [v18,v19]) fun v20 H10 =>
 doQ (ZB v20 0) fun v21 =>
 doQ (ZB v20 1) fun v22 =>
 doW (Zd H10 10 28) fun v23 H11 =>
 doW (Zg H11 28 v23 v21) fun v24 H12 =>
 doQ (Zb H12 30 v13) fun v25 =>
 doQ (Zf 33 v1 1) fun v26 =>
 doQ (Zb H12 28 v26) fun v27 =>
 doQ (Zf 33 v1 2) fun v28 =>
 doQ (Zb H12 31 v28) fun v29 =>
 doQ (eX env.P (Heap.get H12) 31 (some v29) (some none) (oi x1) (some none)) fun v30 =>
 doQ (ZH 123 0 v25 1 v27 2 v30) fun v31 =>
 doW (Za false H12 46 75 [v31]) fun v32 H13 =>
 doQ (Zb H13 30 v14) fun v33 =>
 doQ (Zb H13 28 v23) fun v34 =>
 doQ (Zf 33 v1 2) fun v35 =>
 doQ (Zb H13 31 v35) fun v36 =>
 doQ (eX env.P (Heap.get H13) 31 (some v36) (oi x1) (some none) (some none)) fun v37 =>
 doQ (ZH 123 0 v33 1 v34 2 v37) fun v38 =>
 doW (Za false H13 54 75 [v38]) fun v39 H14 =>
 doW (Zg H14 33 v2 v32) fun v40 H15 =>
 doW (Zg H15 33 v3 v39) fun v41 H16 =>
 doQ (Zz H16 v2 33) fun v42 =>
 doQ (Zz H16 v3 33) fun v43 =>
 Q (.tup [v42,v43,v22]) H16))
theorem tq(x0 x1:AV)(H:Heap)(Q:AV→Heap→Prop)(h : ∀g,kT g x0 x1 H Q):GoL env Try.f17 0 [.code oJ] [(0,x0),(1,x1)] H Q:=⟨fun g=>bQ (live:=tU) (cut:=uj) (n:=500) (Eq.mp (by kernel_rfl) (h g))⟩
noncomputable def nJ:Code:=(Try.f18.body).getD .skip
def rU:Nat→Option (List Nat):=fun i=>none
def sm:Nat→Bool:=fun i=>false
def jB(g:Nat→AV)(x0 x1:AV)(H:Heap)(Q:AV→Heap→Prop):Prop :=
 doW (Zc H 2 33 x0) fun v1 H1 =>
 doW (Zc H1 3 33 x1) fun v2 H2 =>
 doQ (Zf 33 v1 0) fun v3 =>
 doQ (Zb H2 30 v3) fun v4 =>
 doQ (Zf 33 v2 0) fun v5 =>
 doQ (Zb H2 30 v5) fun v6 =>
 doQ (Zi 30 6 8 v4 v6) fun v7 =>
 gQ v7 true (Zf 33 v1 1) fun v8 =>
 gQ v7 true (Zb H2 28 v8) fun v9 =>
 gQ v7 true (Zf 33 v2 1) fun v10 =>
 gQ v7 true (Zb H2 28 v10) fun v11 =>
 gQ v7 true (Zi 28 12 14 v9 v11) fun v12 =>
 doQ (Ze v7 v12) fun v13 =>
 gQ v13 true (Zf 33 v1 2) fun v14 =>
 gQ v13 true (Zb H2 31 v14) fun v15 =>
 gQ v13 true (Zf 33 v2 2) fun v16 =>
 gQ v13 true (Zb H2 31 v16) fun v17 =>
 gW v13 true H2 (Za true H2 22 76 [v15,v17]) fun v18 H3 =>
 doQ (Ze v13 v18) fun v19 =>
 Q v19 H3
theorem qQ(x0 x1:AV)(H:Heap)(Q:AV→Heap→Prop)(h : ∀g,jB g x0 x1 H Q):GoL env Try.f18 0 [.code nJ] [(0,x0),(1,x1)] H Q:=⟨fun g=>bQ (live:=rU) (cut:=sm) (n:=500) (Eq.mp (by kernel_rfl) (h g))⟩
noncomputable def mH:Code:=(Try.f19.body).getD .skip
def qk:Nat→Option (List Nat):=fun i=>none
def qz:Nat→Bool:=fun i=>false
def kB(g:Nat→AV)(x0:AV)(H:Heap)(Q:AV→Heap→Prop):Prop :=
 doW (Zc H 1 33 x0) fun v1 H1 =>
 doQ (Zf 33 v1 1) fun v2 =>
 doQ (Zb H1 28 v2) fun v3 =>
 doQ (Zx 28) fun v4 =>
 doQ (Zi 28 5 6 v3 v4) fun v5 =>
 gQ v5 false (Zf 33 v1 1) fun v6 =>
 gQ v5 false (Zb H1 28 v6) fun v7 =>
 gW v5 false H1 (Za true H1 11 77 [v7]) fun v8 H2 =>
 gQ v5 false (Zk 35 11 0 v8) fun v9 =>
 gQ v5 false (ZA v9) fun v10 =>
 gQ v10 true (Zf 33 v1 1) fun v11 =>
 gQ v10 true (Zf 28 v11 1) fun v12 =>
 gQ v10 true (Zb H2 3 v12) fun v13 =>
 gQ v10 true (Zf 33 v1 0) fun v14 =>
 gQ v10 true (Zf 30 v14 0) fun v15 =>
 gQ v10 true (Zf 28 v15 1) fun v16 =>
 gQ v10 true (Zb H2 3 v16) fun v17 =>
 gQ v10 true (Zt 3 16 20 v13 v17) fun v18 =>
 gQ v5 false (Ze v10 v18) fun v19 =>
 doQ (Zj v5 v19) fun v20 =>
 doQ (Zf 33 v1 0) fun v21 =>
 doQ (Zb H2 30 v21) fun v22 =>
 doW (Za true H2 26 78 [v22]) fun v23 H3 =>
 doQ (Zh 35 26 0 v23) fun v24 =>
 gQ v24 false (ZA v20) fun v25 =>
 gQ v24 false (Zy v25) fun v26 =>
 doQ (Zj v24 v26) fun v27 =>
 gQ v27 false (Zf 33 v1 2) fun v28 =>
 gQ v27 false (Zb H3 31 v28) fun v29 =>
 gQ v27 false (Zl H3 35 31 v29) fun v30 =>
 gQ v27 false (Zf 33 v1 0) fun v31 =>
 gQ v27 false (Zf 30 v31 1) fun v32 =>
 gQ v27 false (Zb H3 3 v32) fun v33 =>
 gQ v27 false (Zu 3 35 38 v30 v33) fun v34 =>
 doQ (Zj v27 v34) fun v35 =>
 gQ v35 false (Zf 33 v1 2) fun v36 =>
 gQ v35 false (Zb H3 31 v36) fun v37 =>
 gW v35 false H3 (Za true H3 44 79 [v37]) fun v38 H4 =>
 gQ v35 false (Zh 35 44 0 v38) fun v39 =>
 doQ (Zj v35 v39) fun v40 =>
 br (some v40) (
 Q (.v (.int .i64 8)) H4) (
 Q (.v (.int .i64 0)) H4)
theorem pQ(x0:AV)(H:Heap)(Q:AV→Heap→Prop)(h : ∀g,kB g x0 H Q):GoL env Try.f19 0 [.code mH] [(0,x0)] H Q:=⟨fun g=>bQ (live:=qk) (cut:=qz) (n:=500) (Eq.mp (by kernel_rfl) (h g))⟩
noncomputable def nL:Code:=(Try.f20.body).getD .skip
def vS:Nat→Option (List Nat):=fun i=>none
def wB:Nat→Bool:=fun i=>false
def kC(g:Nat→AV)(x0 x1:AV)(H:Heap)(Q:AV→Heap→Prop):Prop :=
 doW (Zc H 2 33 x0) fun v1 H1 =>
 doW (Zd H1 4 28) fun v2 H2 =>
 doW (Zd H2 5 28) fun v3 H3 =>
 doQ (Zb H3 33 v1) fun v4 =>
 doW (Za true H3 10 19 [v4]) fun v5 H4 =>
 doQ (Zh 35 11 0 v5) fun v6 =>
 br (some v6) (
 doQ (Zb H4 28 v2) fun v7 =>
 doQ (Zb H4 28 v3) fun v8 =>
 doW (Zg H4 28 v2 v7) fun v9 H5 =>
 doW (Zg H5 28 v3 v8) fun v10 H6 =>
  jF [(v3,v2)] [v2,v3] [] H6 ∧
 (doQ (Zz H6 v2 28) fun v11 =>
 doQ (Zz H6 v3 28) fun v12 =>
 Q (.tup [v11,v12,(.v (.int .i32 0)),v5]) H6)) (
 doQ (Zf 33 v1 0) fun v7 =>
 doQ (Zb H4 30 v7) fun v8 =>
 doW (Za true H4 20 74 [v8,x1]) fun v9 H5 =>
 doQ (ZB v9 0) fun v10 =>
 doQ (ZB v9 1) fun v11 =>
 doW (Zg H5 28 v2 v10) fun v12 H6 =>
 doQ (Zh 35 23 0 v11) fun v13 =>
 br (some v13) (
 doQ (Zb H6 28 v2) fun v14 =>
 doQ (Zb H6 28 v3) fun v15 =>
 doW (Zg H6 28 v2 v14) fun v16 H7 =>
 doW (Zg H7 28 v3 v15) fun v17 H8 =>
  jF [(v3,v2)] [v2,v3] [] H8 ∧
 (doQ (Zz H8 v2 28) fun v18 =>
 doQ (Zz H8 v3 28) fun v19 =>
 Q (.tup [v18,v19,(.v (.int .i32 0)),v11]) H8)) (
 doQ (Zf 33 v1 1) fun v14 =>
 doQ (Zb H6 28 v14) fun v15 =>
 doW (Zg H6 28 v3 v15) fun v16 H7 =>
 doQ (Zm 3 30 0 x1) fun v17 =>
 br (some v17) (
 doQ (Zf 33 v1 0) fun v18 =>
 doQ (Zb H7 30 v18) fun v19 =>
 doQ (Zr 3 35 1 x1) fun v20 =>
 doW (Za true H7 37 74 [v19,v20]) fun v21 H8 =>
 doQ (ZB v21 0) fun v22 =>
 doQ (ZB v21 1) fun v23 =>
 doW (Zg H8 28 v3 v22) fun v24 H9 =>
 doQ (Zb H9 28 v2) fun v25 =>
 doQ (Zb H9 28 v3) fun v26 =>
 doQ (Zf 33 v1 2) fun v27 =>
 doQ (Zb H9 31 v27) fun v28 =>
 doQ (Zv H9 31 v28 x1) fun v29 =>
 doQ (Zb H9 21 v29) fun v30 =>
 doW (Zg H9 28 v2 v25) fun v31 H10 =>
 doW (Zg H10 28 v3 v26) fun v32 H11 =>
  jF [(v3,v2),(v27,v2),(v28,v2),(v29,v2),(v27,v3),(v28,v3),(v29,v3)] [v2,v3] [] H11 ∧
 (doQ (Zz H11 v2 28) fun v33 =>
 doQ (Zz H11 v3 28) fun v34 =>
 Q (.tup [v33,v34,v30,v23]) H11)) (
 doQ (Zb H7 28 v2) fun v18 =>
 doQ (Zb H7 28 v3) fun v19 =>
 doQ (Zf 33 v1 2) fun v20 =>
 doQ (Zb H7 31 v20) fun v21 =>
 doQ (Zv H7 31 v21 x1) fun v22 =>
 doQ (Zb H7 21 v22) fun v23 =>
 doW (Zg H7 28 v2 v18) fun v24 H8 =>
 doW (Zg H8 28 v3 v19) fun v25 H9 =>
  jF [(v3,v2),(v20,v2),(v21,v2),(v22,v2),(v20,v3),(v21,v3),(v22,v3)] [v2,v3] [] H9 ∧
 (doQ (Zz H9 v2 28) fun v26 =>
 doQ (Zz H9 v3 28) fun v27 =>
 Q (.tup [v26,v27,v23,v11]) H9))))
theorem pR(x0 x1:AV)(H:Heap)(Q:AV→Heap→Prop)(h : ∀g,kC g x0 x1 H Q):GoL env Try.f20 0 [.code nL] [(0,x0),(1,x1)] H Q:=⟨fun g=>bQ (live:=vS) (cut:=wB) (n:=500) (Eq.mp (by kernel_rfl) (h g))⟩
noncomputable def mu:Code:=(Try.f72.body).getD .skip
noncomputable def kj:List Item:=(dp 2 400 [.code mu]).getD []
def oy:Nat→Option (List Nat):=fun i=>cond (Nat.beq i 2) (some [7,2,5,6]) (none)
def oG:Nat→Bool:=fun i=>false
def oN(g:Nat→AV)(x0:AV)(H:Heap)(Q:AV→Heap→Prop):Prop :=
 doQ (Zl H 6 156 x0) fun v1 =>
  GoL env Try.f72 0 kj [(7,(.v (.int .i64 0))),(2,(.v (.slice none 0 0))),(5,x0),(6,v1)] H Q
theorem tp(x0:AV)(H:Heap)(Q:AV→Heap→Prop)(h : ∀g,oN g x0 H Q):GoL env Try.f72 0 [.code mu] [(0,x0)] H Q:=⟨fun g=>bQ (live:=oy) (cut:=oG) (n:=500) (Eq.mp (by kernel_rfl) (h g))⟩
def ib(g:Nat→AV)(x7 x2 x5 x6:AV)(H:Heap)(Q:AV→Heap→Prop):Prop :=
 doQ (Zt 3 7 6 x7 x6) fun v1 =>
 br (some v1) (
 doQ (Zv H 156 x5 x7) fun v2 =>
 doQ (Zb H 33 v2) fun v3 =>
 doW (Zd H 4 33) fun v4 H1 =>
 doW (Zg H1 33 v4 v3) fun v5 H2 =>
 doQ (Zf 33 v4 2) fun v6 =>
 doQ (Zb H2 31 v6) fun v7 =>
 doW (ZE H2 14 31 31 x2 v7) fun v8 H3 =>
 doQ (Zq 3 7 1 x7) fun v9 =>
  GoL env Try.f72 0 kj [(7,v9),(2,v8),(5,x5),(6,x6)] H3 Q) (
 Q x2 H)
theorem jY(x7 x2 x5 x6:AV)(H:Heap)(Q:AV→Heap→Prop)(h : ∀g,ib g x7 x2 x5 x6 H Q):GoL env Try.f72 0 kj [(7,x7),(2,x2),(5,x5),(6,x6)] H Q:=kN fun g=>bQ (live:=oy) (cut:=oG) (n:=500) (Eq.mp (by kernel_rfl) (h g))
noncomputable def oK:Code:=(Try.f73.body).getD .skip
def tV:Nat→Option (List Nat):=fun i=>none
def uo:Nat→Bool:=fun i=>false
def gE(g:Nat→AV)(x0 x1:AV)(H:Heap)(Q:AV→Heap→Prop):Prop :=
 doW (Zc H 2 30 x0) fun v1 H1 =>
 doW (Zd H1 4 30) fun v2 H2 =>
 doW (Zd H2 5 30) fun v3 H3 =>
 doQ (Zb H3 30 v1) fun v4 =>
 doW (Za true H3 11 74 [v4,x1]) fun v5 H4 =>
 doQ (ZB v5 0) fun v6 =>
 doQ (ZB v5 1) fun v7 =>
 doW (Zd H4 7 28) fun v8 H5 =>
 doW (Zg H5 28 v8 v6) fun v9 H6 =>
 doQ (Zk 35 14 0 v7) fun v10 =>
 gQ v10 true (ZA x1) fun v11 =>
 gQ v10 true (Zk 3 17 0 v11) fun v12 =>
 doQ (Ze v10 v12) fun v13 =>
 br (some v13) (
 doQ (qBin env.P .neq 35 (Operand.tmp 20) (Operand.const (Value.int IntKind.i64 0)) (some (AV.v (Value.int IntKind.i64 2))) (some (AV.v (Value.int IntKind.i64 0)))) fun v14 =>
 br (some v14) (
 doQ (Zb H6 30 v2) fun v15 =>
 doQ (Zb H6 30 v3) fun v16 =>
 doW (Zg H6 30 v2 v15) fun v17 H7 =>
 doW (Zg H7 30 v3 v16) fun v18 H8 =>
  jF [(v3,v2)] [v2,v3] [] H8 ∧
 (doQ (Zz H8 v2 30) fun v19 =>
 doQ (Zz H8 v3 30) fun v20 =>
 Q (.tup [v19,v20,(.v (.int .i64 2))]) H8)) (
 doQ (Zf 30 v1 0) fun v15 =>
 doQ (Zb H6 28 v15) fun v16 =>
 doQ (ZI 30 0 v16 1 x1) fun v17 =>
 doQ (Zb H6 28 v8) fun v18 =>
 doQ (Zf 30 v1 1) fun v19 =>
 doQ (Zb H6 3 v19) fun v20 =>
 doQ (ZF 3 31 32 v20 x1) fun v21 =>
 doQ (ZI 30 0 v18 1 v21) fun v22 =>
 doW (Zg H6 30 v2 v17) fun v23 H7 =>
 doW (Zg H7 30 v3 v22) fun v24 H8 =>
  jF [(v8,v2),(v19,v2)] [v2,v3] [] H8 ∧
 (doQ (Zz H8 v2 30) fun v25 =>
 doQ (Zz H8 v3 30) fun v26 =>
 Q (.tup [v25,v26,(.v (.int .i64 0))]) H8))) (
 doQ (Zh 35 20 0 v7) fun v14 =>
 br (some v14) (
 doQ (Zb H6 30 v2) fun v15 =>
 doQ (Zb H6 30 v3) fun v16 =>
 doW (Zg H6 30 v2 v15) fun v17 H7 =>
 doW (Zg H7 30 v3 v16) fun v18 H8 =>
  jF [(v3,v2)] [v2,v3] [] H8 ∧
 (doQ (Zz H8 v2 30) fun v19 =>
 doQ (Zz H8 v3 30) fun v20 =>
 Q (.tup [v19,v20,v7]) H8)) (
 doQ (Zf 30 v1 0) fun v15 =>
 doQ (Zb H6 28 v15) fun v16 =>
 doQ (ZI 30 0 v16 1 x1) fun v17 =>
 doQ (Zb H6 28 v8) fun v18 =>
 doQ (Zf 30 v1 1) fun v19 =>
 doQ (Zb H6 3 v19) fun v20 =>
 doQ (ZF 3 31 32 v20 x1) fun v21 =>
 doQ (ZI 30 0 v18 1 v21) fun v22 =>
 doW (Zg H6 30 v2 v17) fun v23 H7 =>
 doW (Zg H7 30 v3 v22) fun v24 H8 =>
  jF [(v8,v2),(v19,v2)] [v2,v3] [] H8 ∧
 (doQ (Zz H8 v2 30) fun v25 =>
 doQ (Zz H8 v3 30) fun v26 =>
 Q (.tup [v25,v26,(.v (.int .i64 0))]) H8)))
theorem tu(x0 x1:AV)(H:Heap)(Q:AV→Heap→Prop)(h : ∀g,gE g x0 x1 H Q):GoL env Try.f73 0 [.code oK] [(0,x0),(1,x1)] H Q:=⟨fun g=>bQ (live:=tV) (cut:=uo) (n:=500) (Eq.mp (by kernel_rfl) (h g))⟩
noncomputable def qH:Code:=(Try.f74.body).getD .skip
def vT:Nat→Option (List Nat):=fun i=>none
def wC:Nat→Bool:=fun i=>false
def kD(g:Nat→AV)(x0 x1:AV)(H:Heap)(Q:AV→Heap→Prop):Prop :=
 doW (Zc H 2 30 x0) fun v1 H1 =>
 doW (Zd H1 4 28) fun v2 H2 =>
 doQ (Zb H2 30 v1) fun v3 =>
 doW (Za true H2 8 78 [v3]) fun v4 H3 =>
 doQ (Zh 35 9 0 v4) fun v5 =>
 br (some v5) (
 doQ (Zx 28) fun v6 =>
 doW (Zg H3 28 v2 v6) fun v7 H4 =>
 doQ (Zz H4 v2 28) fun v8 =>
 Q (.tup [v8,v4]) H4) (
 doQ (Zp 3 13 0 x1) fun v6 =>
 gQ v6 false (ZA x1) fun v7 =>
 gQ v6 false (Zf 30 v1 1) fun v8 =>
 gQ v6 false (Zb H3 3 v8) fun v9 =>
 gQ v6 false (ZG 3 16 18 v7 v9) fun v10 =>
 doQ (Zj v6 v10) fun v11 =>
 br (some v11) (
 doQ (Zx 28) fun v12 =>
 doW (Zg H3 28 v2 v12) fun v13 H4 =>
 doQ (Zz H4 v2 28) fun v14 =>
 Q (.tup [v14,(.v (.int .i64 2))]) H4) (
 doQ (Zf 30 v1 0) fun v12 =>
 doQ (Zb H3 28 v12) fun v13 =>
 doW (Za true H3 25 92 [v13,x1]) fun v14 H4 =>
 doW (Zg H4 28 v2 v14) fun v15 H5 =>
 doQ (Zz H5 v2 28) fun v16 =>
 Q (.tup [v16,(.v (.int .i64 0))]) H5))
theorem uK(x0 x1:AV)(H:Heap)(Q:AV→Heap→Prop)(h : ∀g,kD g x0 x1 H Q):GoL env Try.f74 0 [.code qH] [(0,x0),(1,x1)] H Q:=⟨fun g=>bQ (live:=vT) (cut:=wC) (n:=500) (Eq.mp (by kernel_rfl) (h g))⟩
noncomputable def dF:Code:=(Try.f75.body).getD .skip
def gy:Nat→Option (List Nat):=fun i=>none
def gA:Nat→Bool:=fun i=>false
def dI(g:Nat→AV)(x0:AV)(H:Heap)(Q:AV→Heap→Prop):Prop :=
 doW (Zc H 1 123 x0) fun v1 H1 =>
 doW (Zd H1 2 33) fun v2 H2 =>
 doQ (Zf 123 v1 0) fun v3 =>
 doQ (Zb H2 30 v3) fun v4 =>
 doQ (Zf 123 v1 1) fun v5 =>
 doQ (Zb H2 28 v5) fun v6 =>
 doQ (Zf 123 v1 2) fun v7 =>
 doQ (Zb H2 31 v7) fun v8 =>
 doW (Za false H2 9 81 [v8]) fun v9 H3 =>
 doQ (ZH 33 0 v4 1 v6 2 v9) fun v10 =>
 doW (Zg H3 33 v2 v10) fun v11 H4 =>
 doQ (Zz H4 v2 33) fun v12 =>
 Q v12 H4
theorem gp(x0:AV)(H:Heap)(Q:AV→Heap→Prop)(h : ∀g,dI g x0 H Q):GoL env Try.f75 0 [.code dF] [(0,x0)] H Q:=⟨fun g=>bQ (live:=gy) (cut:=gA) (n:=500) (Eq.mp (by kernel_rfl) (h g))⟩
noncomputable def ch:Code:=(Try.f76.body).getD .skip
noncomputable def bC:List Item:=(dp 4 400 [.code ch]).getD []
def db:Nat→Option (List Nat):=fun i=>cond (Nat.beq i 4) (some [13,1,0,12]) (none)
def dc:Nat→Bool:=fun i=>false
def cp(g:Nat→AV)(x0 x1:AV)(H:Heap)(Q:AV→Heap→Prop):Prop :=
 doQ (Zl H 7 31 x0) fun v1 =>
 doQ (Zl H 9 31 x1) fun v2 =>
 doQ (Zu 3 7 9 v1 v2) fun v3 =>
 br (some v3) (
 Q (.v (.bool false)) H) (
 doQ (Zl H 12 31 x0) fun v4 =>
  GoL env Try.f76 0 bC [(13,(.v (.int .i64 0))),(1,x1),(0,x0),(12,v4)] H Q)
theorem fN(x0 x1:AV)(H:Heap)(Q:AV→Heap→Prop)(h : ∀g,cp g x0 x1 H Q):GoL env Try.f76 0 [.code ch] [(0,x0),(1,x1)] H Q:=⟨fun g=>bQ (live:=db) (cut:=dc) (n:=500) (Eq.mp (by kernel_rfl) (h g))⟩
def bD(g:Nat→AV)(x13 x1 x0 x12:AV)(H:Heap)(Q:AV→Heap→Prop):Prop :=
 doQ (Zt 3 13 12 x13 x12) fun v1 =>
 br (some v1) (
 doQ (Zv H 31 x0 x13) fun v2 =>
 doQ (Zb H 21 v2) fun v3 =>
 doQ (Zv H 31 x1 x13) fun v4 =>
 doQ (Zb H 21 v4) fun v5 =>
 doQ (Zu 21 19 23 v3 v5) fun v6 =>
 br (some v6) (
 Q (.v (.bool false)) H) (
 doQ (Zq 3 13 1 x13) fun v7 =>
  GoL env Try.f76 0 bC [(13,v7),(1,x1),(0,x0),(12,x12)] H Q)) (
 Q (.v (.bool true)) H)
theorem cS(x13 x1 x0 x12:AV)(H:Heap)(Q:AV→Heap→Prop)(h : ∀g,bD g x13 x1 x0 x12 H Q):GoL env Try.f76 0 bC [(13,x13),(1,x1),(0,x0),(12,x12)] H Q:=kN fun g=>bQ (live:=db) (cut:=dc) (n:=500) (Eq.mp (by kernel_rfl) (h g))
noncomputable def mJ:Code:=(Try.f77.body).getD .skip
def qn:Nat→Option (List Nat):=fun i=>none
def qB:Nat→Bool:=fun i=>false
def mL(g:Nat→AV)(x0:AV)(H:Heap)(Q:AV→Heap→Prop):Prop :=
 doW (Zc H 1 28 x0) fun v1 H1 =>
 doQ (Zf 28 v1 0) fun v2 =>
 doQ (Zb H1 26 v2) fun v3 =>
 doW (Za true H1 5 113 [v3]) fun v4 H2 =>
 doQ (Zk 35 5 0 v4) fun v5 =>
 gQ v5 true (Zf 28 v1 1) fun v6 =>
 gQ v5 true (Zb H2 3 v6) fun v7 =>
 gQ v5 true (Zn 3 9 1 v7) fun v8 =>
 doQ (Ze v5 v8) fun v9 =>
 gQ v9 true (Zf 28 v1 1) fun v10 =>
 gQ v9 true (Zb H2 3 v10) fun v11 =>
 gQ v9 true (Zo 3 14 1099511627776 v11) fun v12 =>
 doQ (Ze v9 v12) fun v13 =>
 doW (Za true H2 17 112 [v13]) fun v14 H3 =>
 Q v14 H3
theorem pT(x0:AV)(H:Heap)(Q:AV→Heap→Prop)(h : ∀g,mL g x0 H Q):GoL env Try.f77 0 [.code mJ] [(0,x0)] H Q:=⟨fun g=>bQ (live:=qn) (cut:=qB) (n:=500) (Eq.mp (by kernel_rfl) (h g))⟩
noncomputable def jE:Code:=(Try.f78.body).getD .skip
def mS:Nat→Option (List Nat):=fun i=>none
def mW:Nat→Bool:=fun i=>false
def dz(g:Nat→AV)(x0:AV)(H:Heap)(Q:AV→Heap→Prop):Prop :=
 doW (Zc H 1 30 x0) fun v1 H1 =>
 doQ (Zf 30 v1 0) fun v2 =>
 doQ (Zb H1 28 v2) fun v3 =>
 doW (Za true H1 5 77 [v3]) fun v4 H2 =>
 doQ (Zk 35 5 0 v4) fun v5 =>
 gQ v5 true (Zf 30 v1 1) fun v6 =>
 gQ v5 true (Zb H2 3 v6) fun v7 =>
 gQ v5 true (Zn 3 9 1 v7) fun v8 =>
 doQ (Ze v5 v8) fun v9 =>
 gQ v9 true (Zf 30 v1 1) fun v10 =>
 gQ v9 true (Zb H2 3 v10) fun v11 =>
 gQ v9 true (Zo 3 14 64 v11) fun v12 =>
 doQ (Ze v9 v12) fun v13 =>
 gQ v13 true (Zf 30 v1 0) fun v14 =>
 gQ v13 true (Zf 28 v14 1) fun v15 =>
 gQ v13 true (Zb H2 3 v15) fun v16 =>
 gQ v13 true (Zf 30 v1 1) fun v17 =>
 gQ v13 true (Zb H2 3 v17) fun v18 =>
 gQ v13 true (Zw 3 20 22 v16 v18) fun v19 =>
 gQ v13 true (Zr 3 23 1 v19) fun v20 =>
 gQ v13 true (Zo 3 24 1099511627776 v20) fun v21 =>
 doQ (Ze v13 v21) fun v22 =>
 doW (Za true H2 27 112 [v22]) fun v23 H3 =>
 Q v23 H3
theorem mP(x0:AV)(H:Heap)(Q:AV→Heap→Prop)(h : ∀g,dz g x0 H Q):GoL env Try.f78 0 [.code jE] [(0,x0)] H Q:=⟨fun g=>bQ (live:=mS) (cut:=mW) (n:=500) (Eq.mp (by kernel_rfl) (h g))⟩
noncomputable def kX:Code:=(Try.f79.body).getD .skip
def nX:Nat→Option (List Nat):=fun i=>none
def n7:Nat→Bool:=fun i=>false
def iz(g:Nat→AV)(x0:AV)(H:Heap)(Q:AV→Heap→Prop):Prop :=
 doQ (Zl H 6 31 x0) fun v1 =>
 doQ (Zm 3 6 64 v1) fun v2 =>
 br (some v2) (
 Q (.v (.int .i64 4)) H) (
 doW (Za true H 11 116 [x0,(.fn (.func 114) [] [])]) fun v3 H1 =>
 br (some v3) (
 Q (.v (.int .i64 8)) H1) (
 Q (.v (.int .i64 0)) H1))
theorem nS(x0:AV)(H:Heap)(Q:AV→Heap→Prop)(h : ∀g,iz g x0 H Q):GoL env Try.f79 0 [.code kX] [(0,x0)] H Q:=⟨fun g=>bQ (live:=nX) (cut:=n7) (n:=500) (Eq.mp (by kernel_rfl) (h g))⟩
noncomputable def ck:Code:=(Try.f81.body).getD .skip
def fT:Nat→Option (List Nat):=fun i=>none
def fV:Nat→Bool:=fun i=>false
def bg(g:Nat→AV)(x0:AV)(H:Heap)(Q:AV→Heap→Prop):Prop :=
 doQ (qBin env.P .eql 31 (Operand.tmp 3) (.const (.slice none 0 0)) (some x0) (some (.v (.slice none 0 0)))) fun v1 =>
 br (some v1) (
 Q (.v (.slice none 0 0)) H) (
 doW (ur env.P false true H (Ref.mk 0 5 (Heap.gen H 0 5) 0) 31 0 (some [])) fun v2 H1 =>
 doW (ZE H1 7 31 31 v2 x0) fun v3 H2 =>
 Q v3 H2)
theorem da(x0:AV)(H:Heap)(Q:AV→Heap→Prop)(h : ∀g,bg g x0 H Q):GoL env Try.f81 0 [.code ck] [(0,x0)] H Q:=⟨fun g=>bQ (live:=fT) (cut:=fV) (n:=500) (Eq.mp (by kernel_rfl) (h g))⟩
noncomputable def du:Code:=(Try.f87.body).getD .skip
noncomputable def cd:List Item:=(dp 4 400 [.code du]).getD []
def eY:Nat→Option (List Nat):=fun i=>cond (Nat.beq i 4) (some [5,1,0]) (none)
def e9:Nat→Bool:=fun i=>false
def dx(g:Nat→AV)(x0 x1:AV)(H:Heap)(Q:AV→Heap→Prop):Prop :=
 doQ (Zl H 7 31 x0) fun v1 =>
 doQ (Zl H 9 31 x1) fun v2 =>
 doQ (Zu 3 7 9 v1 v2) fun v3 =>
 br (some v3) (
 Q (.v (.bool false)) H) (
  GoL env Try.f87 0 cd [(5,(.v (.int .i64 0))),(1,x1),(0,x0)] H Q)
theorem iZ(x0 x1:AV)(H:Heap)(Q:AV→Heap→Prop)(h : ∀g,dx g x0 x1 H Q):GoL env Try.f87 0 [.code du] [(0,x0),(1,x1)] H Q:=⟨fun g=>bQ (live:=eY) (cut:=e9) (n:=500) (Eq.mp (by kernel_rfl) (h g))⟩
def cf(g:Nat→AV)(x5 x1 x0:AV)(H:Heap)(Q:AV→Heap→Prop):Prop :=
 doQ (Zl H 13 31 x0) fun v1 =>
 doQ (Zt 3 11 13 x5 v1) fun v2 =>
 br (some v2) (
 doQ (Zv H 31 x0 x5) fun v3 =>
 doQ (Zb H 21 v3) fun v4 =>
 doQ (Zv H 31 x1 x5) fun v5 =>
 doQ (Zb H 21 v5) fun v6 =>
 doQ (Zu 21 20 24 v4 v6) fun v7 =>
 br (some v7) (
 Q (.v (.bool false)) H) (
 doQ (Zq 3 15 1 x5) fun v8 =>
  GoL env Try.f87 0 cd [(5,v8),(1,x1),(0,x0)] H Q)) (
 Q (.v (.bool true)) H)
theorem eb(x5 x1 x0:AV)(H:Heap)(Q:AV→Heap→Prop)(h : ∀g,cf g x5 x1 x0 H Q):GoL env Try.f87 0 cd [(5,x5),(1,x1),(0,x0)] H Q:=kN fun g=>bQ (live:=eY) (cut:=e9) (n:=500) (Eq.mp (by kernel_rfl) (h g))
noncomputable def nN:Code:=(Try.f92.body).getD .skip
def rX:Nat→Option (List Nat):=fun i=>none
def sq:Nat→Bool:=fun i=>false
def nP(g:Nat→AV)(x0 x1:AV)(H:Heap)(Q:AV→Heap→Prop):Prop :=
 doW (Zc H 2 28 x0) fun v1 H1 =>
 doW (Zd H1 4 28) fun v2 H2 =>
 doQ (Zf 28 v1 1) fun v3 =>
 doQ (Zb H2 3 v3) fun v4 =>
 doQ (Zw 3 6 7 v4 x1) fun v5 =>
 doQ (Zf 28 v1 1) fun v6 =>
 doW (Zg H2 3 v6 v5) fun v7 H3 =>
 doQ (Zb H3 28 v1) fun v8 =>
 doW (Zg H3 28 v2 v8) fun v9 H4 =>
 doQ (Zz H4 v2 28) fun v10 =>
 Q v10 H4
theorem qT(x0 x1:AV)(H:Heap)(Q:AV→Heap→Prop)(h : ∀g,nP g x0 x1 H Q):GoL env Try.f92 0 [.code nN] [(0,x0),(1,x1)] H Q:=⟨fun g=>bQ (live:=rX) (cut:=sq) (n:=500) (Eq.mp (by kernel_rfl) (h g))⟩
noncomputable def mI:Code:=(Try.f112.body).getD .skip
def qm:Nat→Option (List Nat):=fun i=>none
def qA:Nat→Bool:=fun i=>false
def mK(g:Nat→AV)(x0:AV)(H:Heap)(Q:AV→Heap→Prop):Prop :=
 br (some x0) (
 Q (.v (.int .i64 0)) H) (
 Q (.v (.int .i64 8)) H)
theorem pS(x0:AV)(H:Heap)(Q:AV→Heap→Prop)(h : ∀g,mK g x0 H Q):GoL env Try.f112 0 [.code mI] [(0,x0)] H Q:=⟨fun g=>bQ (live:=qm) (cut:=qA) (n:=500) (Eq.mp (by kernel_rfl) (h g))⟩
noncomputable def ia:Code:=(Try.f113.body).getD .skip
def lQ:Nat→Option (List Nat):=fun i=>none
def l4:Nat→Bool:=fun i=>false
def ic(g:Nat→AV)(x0:AV)(H:Heap)(Q:AV→Heap→Prop):Prop :=
 doW (Zc H 1 26 x0) fun v1 H1 =>
 doQ (Zf 26 v1 0) fun v2 =>
 doQ (Zb H1 24 v2) fun v3 =>
 doW (Za true H1 5 125 [v3]) fun v4 H2 =>
 doQ (Zk 35 5 0 v4) fun v5 =>
 gQ v5 true (Zf 26 v1 1) fun v6 =>
 gQ v5 true (Zb H2 5 v6) fun v7 =>
 gQ v5 true (qBin env.P .lss 5 (Operand.tmp 9) (.const (.int .u8 8)) (some v7) (some (a8 8))) fun v8 =>
 doQ (Ze v5 v8) fun v9 =>
 doW (Za true H2 12 112 [v9]) fun v10 H3 =>
 Q v10 H3
theorem lx(x0:AV)(H:Heap)(Q:AV→Heap→Prop)(h : ∀g,ic g x0 H Q):GoL env Try.f113 0 [.code ia] [(0,x0)] H Q:=⟨fun g=>bQ (live:=lQ) (cut:=l4) (n:=500) (Eq.mp (by kernel_rfl) (h g))⟩
noncomputable def jD:Code:=(Try.f114.body).getD .skip
def mR:Nat→Option (List Nat):=fun i=>none
def mV:Nat→Bool:=fun i=>false
def gg(g:Nat→AV)(x0:AV)(H:Heap)(Q:AV→Heap→Prop):Prop :=
 doQ (ZD 21 3 x0) fun v1 =>
 gQ v1 true (ZA x0) fun v2 =>
 gW v1 true H (Za true H 7 115 [v2]) fun v3 H1 =>
 gQ v1 true (Zy v3) fun v4 =>
 doQ (Ze v1 v4) fun v5 =>
 Q v5 H1
theorem mO(x0:AV)(H:Heap)(Q:AV→Heap→Prop)(h : ∀g,gg g x0 H Q):GoL env Try.f114 0 [.code jD] [(0,x0)] H Q:=⟨fun g=>bQ (live:=mR) (cut:=mV) (n:=500) (Eq.mp (by kernel_rfl) (h g))⟩
noncomputable def ep:Code:=(Try.f115.body).getD .skip
def im:Nat→Option (List Nat):=fun i=>none
def iv:Nat→Bool:=fun i=>false
def ey(g:Nat→AV)(x0:AV)(H:Heap)(Q:AV→Heap→Prop):Prop :=
 doQ (qBin env.P .leq 21 (.const (.int .i32 0)) (Operand.tmp 4) (some (.v (.int .i32 0))) (some x0)) fun v1 =>
 gQ v1 true (ZA x0) fun v2 =>
 gQ v1 true (qBin env.P .lss 21 (Operand.tmp 7) (.const (.int .i32 55296)) (some v2) (some (.v (.int .i32 55296)))) fun v3 =>
 doQ (Ze v1 v3) fun v4 =>
 br (some v4) (
 Q (.v (.bool true)) H) (
 doQ (qBin env.P .lss 21 (.const (.int .i32 57343)) (Operand.tmp 11) (some (.v (.int .i32 57343))) (some x0)) fun v5 =>
 gQ v5 true (ZA x0) fun v6 =>
 gQ v5 true (qBin env.P .leq 21 (Operand.tmp 14) (.const (.int .i32 1114111)) (some v6) (some (.v (.int .i32 1114111)))) fun v7 =>
 doQ (Ze v5 v7) fun v8 =>
 br (some v8) (
 Q (.v (.bool true)) H) (
 Q (.v (.bool false)) H))
theorem ig(x0:AV)(H:Heap)(Q:AV→Heap→Prop)(h : ∀g,ey g x0 H Q):GoL env Try.f115 0 [.code ep] [(0,x0)] H Q:=⟨fun g=>bQ (live:=im) (cut:=iv) (n:=500) (Eq.mp (by kernel_rfl) (h g))⟩
noncomputable def cA:Code:=(Try.f116.body).getD .skip
def ee:Nat→Option (List Nat):=fun i=>none
def ei:Nat→Bool:=fun i=>false
def cB(g:Nat→AV)(x0 x1:AV)(H:Heap)(Q:AV→Heap→Prop):Prop :=
 doW (Za true H 7 139 [x0,x1]) fun v1 H1 =>
 doQ (Zn 3 7 0 v1) fun v2 =>
 Q v2 H1
theorem dZ(x0 x1:AV)(H:Heap)(Q:AV→Heap→Prop)(h : ∀g,cB g x0 x1 H Q):GoL env Try.f116 0 [.code cA] [(0,x0),(1,x1)] H Q:=⟨fun g=>bQ (live:=ee) (cut:=ei) (n:=500) (Eq.mp (by kernel_rfl) (h g))⟩
noncomputable def kZ:Code:=(Try.f125.body).getD .skip
def nZ:Nat→Option (List Nat):=fun i=>none
def n9:Nat→Bool:=fun i=>false
def k6(g:Nat→AV)(x0:AV)(H:Heap)(Q:AV→Heap→Prop):Prop :=
 doW (Zc H 1 24 x0) fun v1 H1 =>
 doQ (Zf 24 v1 0) fun v2 =>
 doQ (Zb H1 5 v2) fun v3 =>
 doQ (qBin env.P .gtr 5 (Operand.tmp 4) (.const (.int .u8 15)) (some v3) (some (a8 15))) fun v4 =>
 br (some v4) (
 Q (.v (.int .i64 8)) H1) (
 Q (.v (.int .i64 0)) H1)
theorem nU(x0:AV)(H:Heap)(Q:AV→Heap→Prop)(h : ∀g,k6 g x0 H Q):GoL env Try.f125 0 [.code kZ] [(0,x0)] H Q:=⟨fun g=>bQ (live:=nZ) (cut:=n9) (n:=500) (Eq.mp (by kernel_rfl) (h g))⟩
noncomputable def bU:Code:=(Try.f139.body).getD .skip
noncomputable def bj:List Item:=(dp 2 400 [.code bU]).getD []
def cL:Nat→Option (List Nat):=fun i=>cond (Nat.beq i 2) (some [8,0,1,7]) (none)
def cN:Nat→Bool:=fun i=>false
def cO(g:Nat→AV)(x0 x1:AV)(H:Heap)(Q:AV→Heap→Prop):Prop :=
 doQ (Zl H 7 31 x0) fun v1 =>
  GoL env Try.f139 0 bj [(8,(.v (.int .i64 0))),(0,x0),(1,x1),(7,v1)] H Q
theorem eT(x0 x1:AV)(H:Heap)(Q:AV→Heap→Prop)(h : ∀g,cO g x0 x1 H Q):GoL env Try.f139 0 [.code bU] [(0,x0),(1,x1)] H Q:=⟨fun g=>bQ (live:=cL) (cut:=cN) (n:=500) (Eq.mp (by kernel_rfl) (h g))⟩
def bo(g:Nat→AV)(x8 x0 x1 x7:AV)(H:Heap)(Q:AV→Heap→Prop):Prop :=
 doQ (Zt 3 8 7 x8 x7) fun v1 =>
 br (some v1) (
 doQ (Zv H 31 x0 x8) fun v2 =>
 doQ (Zb H 21 v2) fun v3 =>
 doW (Zs H 16 x1 v3) fun v4 H1 =>
 br (some v4) (
 Q x8 H1) (
 doQ (Zq 3 8 1 x8) fun v5 =>
  GoL env Try.f139 0 bj [(8,v5),(0,x0),(1,x1),(7,x7)] H1 Q)) (
 Q (.v (.int .i64 (-1))) H)
theorem cE(x8 x0 x1 x7:AV)(H:Heap)(Q:AV→Heap→Prop)(h : ∀g,bo g x8 x0 x1 x7 H Q):GoL env Try.f139 0 bj [(8,x8),(0,x0),(1,x1),(7,x7)] H Q:=kN fun g=>bQ (live:=cL) (cut:=cN) (n:=500) (Eq.mp (by kernel_rfl) (h g))
noncomputable def fb:Code:=(Try.f30.body).getD .skip
def jg:Nat→Option (List Nat):=fun i=>none
def jt:Nat→Bool:=fun i=>false
def cz(g:Nat→AV)(x0 x1:AV)(H:Heap)(Q:AV→Heap→Prop):Prop :=
 doW (Zc H 2 33 x0) fun v1 H1 =>
 doW (Zc H1 3 33 x1) fun v2 H2 =>
 doQ (Zf 33 v1 0) fun v3 =>
 doQ (Zb H2 30 v3) fun v4 =>
 doQ (Zf 33 v2 0) fun v5 =>
 doQ (Zb H2 30 v5) fun v6 =>
 doQ (Zi 30 6 8 v4 v6) fun v7 =>
 gQ v7 true (Zf 33 v1 1) fun v8 =>
 gQ v7 true (Zb H2 28 v8) fun v9 =>
 gQ v7 true (Zf 33 v2 1) fun v10 =>
 gQ v7 true (Zb H2 28 v10) fun v11 =>
 gQ v7 true (Zi 28 12 14 v9 v11) fun v12 =>
 doQ (Ze v7 v12) fun v13 =>
 gQ v13 true (Zf 33 v1 2) fun v14 =>
 gQ v13 true (Zb H2 31 v14) fun v15 =>
 gQ v13 true (Zf 33 v2 2) fun v16 =>
 gQ v13 true (Zb H2 31 v16) fun v17 =>
 gW v13 true H2 (Za true H2 22 87 [v15,v17]) fun v18 H3 =>
 doQ (Ze v13 v18) fun v19 =>
 Q v19 H3
theorem iV(x0 x1:AV)(H:Heap)(Q:AV→Heap→Prop)(h : ∀g,cz g x0 x1 H Q):GoL env Try.f30 0 [.code fb] [(0,x0),(1,x1)] H Q:=⟨fun g=>bQ (live:=jg) (cut:=jt) (n:=500) (Eq.mp (by kernel_rfl) (h g))⟩
end Go.Proofs.Ytjampffmlnplcaa
