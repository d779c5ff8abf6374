/-
  What is to be shown of each function, computed from its code. No statement of a seat is proved here.
-/
import Derived.Test.YtmkmimgokagimaaGreatLeTy
set_option linter.unusedVariables false
set_option maxRecDepth 1000000
namespace Go.Proofs.YtmkmimgokagimaaGreat
open Go.Ab
noncomputable def gV:Code:=(Tryz.f13.body).getD .skip
noncomputable def dp:List Item:=(bL 3 400 [.code gV]).getD []
def kQ:Nat→Option (List Nat):=fun i=>cond (Nat.beq i 3) (some [8,1,7,2,3]) (none)
def kS:Nat→Bool:=fun i=>false
def gY(g:Nat→AV)(x0 x1 x2:AV)(H:Heap)(Q:AV→Heap→Prop):Prop :=
 doW (Zc H 3 25 x0) fun v1 H1 =>
  GoL env Tryz.f13 0 dp [(8,(.v (.int .i64 0))),(1,x1),(7,(.v (.int .i64 0))),(2,x2),(3,v1)] H1 Q
theorem pg(x0 x1 x2:AV)(H:Heap)(Q:AV→Heap→Prop)(h : ∀g,gY g x0 x1 x2 H Q):GoL env Tryz.f13 0 [.code gV] [(0,x0),(1,x1),(2,x2)] H Q:=⟨fun g=>aH (live:=kQ) (cut:=kS) (n:=500) (Eq.mp (by kernel_rfl) (h g))⟩
def dX(g:Nat→AV)(x8 x1 x7 x2 x3:AV)(H:Heap)(Q:AV→Heap→Prop):Prop :=
 doQ (Zh H 11 26 x1) fun v1 =>
 doQ (Zp 3 9 11 x8 v1) fun v2 =>
 gQ v2 true (ZF x8) fun v3 =>
 gQ v2 true (Zs 3 14 300 v3) fun v4 =>
 doQ (Zg v2 v4) fun v5 =>
 br (some v5) (
 doQ (Zu H 26 x1 x8) fun v6 =>
 doQ (Zd 62 v6 2) fun v7 =>
 doQ (Zd 38 v7 3) fun v8 =>
 doQ (Zd 35 v8 1) fun v9 =>
 doQ (Zb H 3 v9) fun v10 =>
 doQ (ax env.P true (Heap.get H) (Ref.mk 0 27 (Heap.gen H 0 27) 0) .max #[3,3] [v10,(.v (.int .i64 0))]) fun v11 =>
 doQ (ax env.P true (Heap.get H) (Ref.mk 0 28 (Heap.gen H 0 28) 0) .min #[3,3] [v11,(.v (.int .i64 100))]) fun v12 =>
 doQ (Zu H 26 x1 x8) fun v13 =>
 doQ (Zd 62 v13 2) fun v14 =>
 doQ (Zd 38 v14 6) fun v15 =>
 doQ (Zb H 36 v15) fun v16 =>
 doQ (Zh H 35 36 v16) fun v17 =>
 doQ (ax env.P true (Heap.get H) (Ref.mk 0 36 (Heap.gen H 0 36) 0) .min #[3,3] [v17,(.v (.int .i64 1000))]) fun v18 =>
 doQ (ZU H 37 3 3 v12 v18) fun v19 =>
 doQ (ZG 3 19 37 x7 v19) fun v20 =>
 doQ (Zf 3 17 1 x8) fun v21 =>
  GoL env Tryz.f13 0 dp [(8,v21),(1,x1),(7,v20),(2,x2),(3,x3)] H Q) (
 doQ (Zb H 25 x3) fun v6 =>
 doW (Za true H 40 63 [v6]) fun v7 H1 =>
 gQ v7 false (ZF x1) fun v8 =>
 gQ v7 false (Zh H1 43 26 v8) fun v9 =>
 gQ v7 false (ZF x2) fun v10 =>
 gQ v7 false (qBin env.P .gtr 3 (Operand.tmp 43) (Operand.tmp 44) (some v9) (some v10)) fun v11 =>
 doQ (Zl v7 v11) fun v12 =>
 gQ v12 false (ZF x7) fun v13 =>
 gQ v12 false (Zr 3 48 300 v13) fun v14 =>
 doQ (Zl v12 v14) fun v15 =>
 Q v15 H1)
theorem jB(x8 x1 x7 x2 x3:AV)(H:Heap)(Q:AV→Heap→Prop)(h : ∀g,dX g x8 x1 x7 x2 x3 H Q):GoL env Tryz.f13 0 dp [(8,x8),(1,x1),(7,x7),(2,x2),(3,x3)] H Q:=cU fun g=>aH (live:=kQ) (cut:=kS) (n:=500) (Eq.mp (by kernel_rfl) (h g))
noncomputable def pS:Code:=(Tryz.f15.body).getD .skip
def we:Nat→Option (List Nat):=fun i=>none
def wA:Nat→Bool:=fun i=>false
def p6(g:Nat→AV)(x0 x1:AV)(H:Heap)(Q:AV→Heap→Prop):Prop :=
 doW (Zc H 2 25 x0) fun v1 H1 =>
 doQ (Zb H1 25 v1) fun v2 =>
 doW (Za true H1 8 64 [v2,x1,(.v (.int .i64 0)),(.fn (.func 65) [] [])]) fun v3 H2 =>
 doQ (Zx v3 0) fun v4 =>
 doQ (Zx v3 1) fun v5 =>
 Q (.tup [v4,v5]) H2
theorem vH(x0 x1:AV)(H:Heap)(Q:AV→Heap→Prop)(h : ∀g,p6 g x0 x1 H Q):GoL env Tryz.f15 0 [.code pS] [(0,x0),(1,x1)] H Q:=⟨fun g=>aH (live:=we) (cut:=wA) (n:=500) (Eq.mp (by kernel_rfl) (h g))⟩
noncomputable def pQ:Code:=(Tryz.f17.body).getD .skip
def wb:Nat→Option (List Nat):=fun i=>none
def wy:Nat→Bool:=fun i=>false
def p4(g:Nat→AV)(x0 x1 x2:AV)(H:Heap)(Q:AV→Heap→Prop):Prop :=
 doW (Zc H 3 25 x0) fun v1 H1 =>
 doW (Zc H1 5 38 x2) fun v2 H2 =>
 doQ (Zb H2 25 v1) fun v3 =>
 doQ (Zb H2 38 v2) fun v4 =>
 doW (Za false H2 11 70 [v4]) fun v5 H3 =>
 doQ (rf (.func 71) (some []) (some [v2])) fun v6 =>
 doW (Za true H3 13 69 [v3,x1,v5,v6]) fun v7 H4 =>
 doQ (Zx v7 0) fun v8 =>
 doQ (Zx v7 1) fun v9 =>
 Q (.tup [v8,v9]) H4
theorem vF(x0 x1 x2:AV)(H:Heap)(Q:AV→Heap→Prop)(h : ∀g,p4 g x0 x1 x2 H Q):GoL env Tryz.f17 0 [.code pQ] [(0,x0),(1,x1),(2,x2)] H Q:=⟨fun g=>aH (live:=wb) (cut:=wy) (n:=500) (Eq.mp (by kernel_rfl) (h g))⟩
noncomputable def ta:Code:=(Tryz.f19.body).getD .skip
def Al:Nat→Option (List Nat):=fun i=>none
def AG:Nat→Bool:=fun i=>false
def tu(g:Nat→AV)(x0 x1 x2:AV)(H:Heap)(Q:AV→Heap→Prop):Prop :=
 doW (Zc H 3 25 x0) fun v1 H1 =>
 doW (Zc H1 5 29 x2) fun v2 H2 =>
 doQ (Zb H2 25 v1) fun v3 =>
 doQ (Zb H2 29 v2) fun v4 =>
 doW (Za false H2 11 76 [v4]) fun v5 H3 =>
 doQ (rf (.func 77) (some []) (some [v2])) fun v6 =>
 doW (Za true H3 13 75 [v3,x1,v5,v6]) fun v7 H4 =>
 doQ (Zx v7 0) fun v8 =>
 doQ (Zx v7 1) fun v9 =>
 Q (.tup [v8,v9]) H4
theorem z3(x0 x1 x2:AV)(H:Heap)(Q:AV→Heap→Prop)(h : ∀g,tu g x0 x1 x2 H Q):GoL env Tryz.f19 0 [.code ta] [(0,x0),(1,x1),(2,x2)] H Q:=⟨fun g=>aH (live:=Al) (cut:=AG) (n:=500) (Eq.mp (by kernel_rfl) (h g))⟩
noncomputable def qO:Code:=(Tryz.f25.body).getD .skip
def xz:Nat→Option (List Nat):=fun i=>none
def xG:Nat→Bool:=fun i=>false
def qT(g:Nat→AV)(x0 x1:AV)(H:Heap)(Q:AV→Heap→Prop):Prop :=
 doW (Zc H 2 25 x0) fun v1 H1 =>
 doW (Zj H1 4 25) fun v2 H2 =>
 doQ (Zb H2 25 v1) fun v3 =>
 doW (Za true H2 8 87 [v3,x1,(.v (.int .i64 0)),(.fn (.func 88) [] [])]) fun v4 H3 =>
 doQ (Zx v4 0) fun v5 =>
 doQ (Zx v4 1) fun v6 =>
 doW (Zo H3 25 v2 v5) fun v7 H4 =>
 doQ (Z7 H4 v2 25) fun v8 =>
 Q (.tup [v8,v6]) H4
theorem xl(x0 x1:AV)(H:Heap)(Q:AV→Heap→Prop)(h : ∀g,qT g x0 x1 H Q):GoL env Tryz.f25 0 [.code qO] [(0,x0),(1,x1)] H Q:=⟨fun g=>aH (live:=xz) (cut:=xG) (n:=500) (Eq.mp (by kernel_rfl) (h g))⟩
noncomputable def pR:Code:=(Tryz.f27.body).getD .skip
def wc:Nat→Option (List Nat):=fun i=>none
def wz:Nat→Bool:=fun i=>false
def p5(g:Nat→AV)(x0 x1 x2:AV)(H:Heap)(Q:AV→Heap→Prop):Prop :=
 doW (Zc H 3 25 x0) fun v1 H1 =>
 doW (Zc H1 5 31 x2) fun v2 H2 =>
 doW (Zj H2 6 73) fun v3 H3 =>
 doQ (Zb H3 25 v1) fun v4 =>
 doQ (Zb H3 31 v2) fun v5 =>
 doW (Za false H3 11 91 [v5]) fun v6 H4 =>
 doQ (rf (.func 92) (some []) (some [v2])) fun v7 =>
 doW (Za true H4 13 90 [v4,x1,v6,v7]) fun v8 H5 =>
 doQ (Zx v8 0) fun v9 =>
 doQ (Zx v8 1) fun v10 =>
 doW (Zo H5 73 v3 v9) fun v11 H6 =>
 doQ (Z7 H6 v3 73) fun v12 =>
 Q (.tup [v12,v10]) H6
theorem vG(x0 x1 x2:AV)(H:Heap)(Q:AV→Heap→Prop)(h : ∀g,p5 g x0 x1 x2 H Q):GoL env Tryz.f27 0 [.code pR] [(0,x0),(1,x1),(2,x2)] H Q:=⟨fun g=>aH (live:=wc) (cut:=wz) (n:=500) (Eq.mp (by kernel_rfl) (h g))⟩
noncomputable def te:Code:=(Tryz.f29.body).getD .skip
def Am:Nat→Option (List Nat):=fun i=>none
def AH:Nat→Bool:=fun i=>false
def tv(g:Nat→AV)(x0 x1 x2 x3:AV)(H:Heap)(Q:AV→Heap→Prop):Prop :=
 doW (Zc H 4 25 x0) fun v1 H1 =>
 doW (Zc H1 6 31 x2) fun v2 H2 =>
 doW (Zc H2 7 3 x3) fun v3 H3 =>
 doQ (Zb H3 25 v1) fun v4 =>
 doQ (Zb H3 31 v2) fun v5 =>
 doW (Za false H3 13 91 [v5]) fun v6 H4 =>
 doQ (rf (.func 95) (some []) (some [v2,v3])) fun v7 =>
 doW (Za true H4 15 69 [v4,x1,v6,v7]) fun v8 H5 =>
 doQ (Zx v8 0) fun v9 =>
 doQ (Zx v8 1) fun v10 =>
 Q (.tup [v9,v10]) H5
theorem z6(x0 x1 x2 x3:AV)(H:Heap)(Q:AV→Heap→Prop)(h : ∀g,tv g x0 x1 x2 x3 H Q):GoL env Tryz.f29 0 [.code te] [(0,x0),(1,x1),(2,x2),(3,x3)] H Q:=⟨fun g=>aH (live:=Am) (cut:=AH) (n:=500) (Eq.mp (by kernel_rfl) (h g))⟩
noncomputable def s9:Code:=(Tryz.f31.body).getD .skip
def Ak:Nat→Option (List Nat):=fun i=>none
def AF:Nat→Bool:=fun i=>false
def tq(g:Nat→AV)(x0 x1 x2:AV)(H:Heap)(Q:AV→Heap→Prop):Prop :=
 doW (Zc H 3 25 x0) fun v1 H1 =>
 doW (Zc H1 5 29 x2) fun v2 H2 =>
 doW (Zj H2 6 81) fun v3 H3 =>
 doQ (Zb H3 25 v1) fun v4 =>
 doQ (Zb H3 29 v2) fun v5 =>
 doW (Za false H3 11 76 [v5]) fun v6 H4 =>
 doQ (rf (.func 98) (some []) (some [v2])) fun v7 =>
 doW (Za true H4 13 97 [v4,x1,v6,v7]) fun v8 H5 =>
 doQ (Zx v8 0) fun v9 =>
 doQ (Zx v8 1) fun v10 =>
 doW (Zo H5 81 v3 v9) fun v11 H6 =>
 doQ (Z7 H6 v3 81) fun v12 =>
 Q (.tup [v12,v10]) H6
theorem z0(x0 x1 x2:AV)(H:Heap)(Q:AV→Heap→Prop)(h : ∀g,tq g x0 x1 x2 H Q):GoL env Tryz.f31 0 [.code s9] [(0,x0),(1,x1),(2,x2)] H Q:=⟨fun g=>aH (live:=Ak) (cut:=AF) (n:=500) (Eq.mp (by kernel_rfl) (h g))⟩
noncomputable def rK:Code:=(Tryz.f34.body).getD .skip
def yN:Nat→Option (List Nat):=fun i=>none
def zr:Nat→Bool:=fun i=>false
def rY(g:Nat→AV)(x0 x1:AV)(H:Heap)(Q:AV→Heap→Prop):Prop :=
 doW (Zc H 2 25 x0) fun v1 H1 =>
 doQ (Zb H1 25 v1) fun v2 =>
 doW (Za true H1 10 100 [v2,x1]) fun v3 H2 =>
 doQ (Zx v3 0) fun v4 =>
 doQ (Zx v3 1) fun v5 =>
 doQ (ZE v5) fun v6 =>
 br (some v6) (
 Q (.v (.int .i64 8)) H2) (
 Q (.v (.int .i64 0)) H2)
theorem yb(x0 x1:AV)(H:Heap)(Q:AV→Heap→Prop)(h : ∀g,rY g x0 x1 H Q):GoL env Tryz.f34 0 [.code rK] [(0,x0),(1,x1)] H Q:=⟨fun g=>aH (live:=yN) (cut:=zr) (n:=500) (Eq.mp (by kernel_rfl) (h g))⟩
noncomputable def fC:Code:=(Tryz.f64.body).getD .skip
def kb:Nat→Option (List Nat):=fun i=>none
def ko:Nat→Bool:=fun i=>false
def fF(dep:Nat)(g:Nat→AV)(x0 x1 x2 x3:AV)(H:Heap)(Q:AV→Heap→Prop):Prop :=
 doW (Zi H dep 4 25 x0) fun v1 H1 =>
 doQ (Zb H1 25 v1) fun v2 =>
 doW (ZC dep H1 15 v2 x1) fun v3 H2 =>
 doQ (Zx v3 0) fun v4 =>
 doQ (Zx v3 1) fun v5 =>
 doQ (ZE v5) fun v6 =>
 br (some v6) (
 Q (.tup [(.v (.slice none 0 0)),(.v (.int .i64 8))]) H2) (
 doQ (Ze 42 21 0 x2) fun v7 =>
 br (some v7) (
 Q (.tup [(.v (.slice none 0 0)),x2]) H2) (
 doW (ZB dep H2 27 x3 v4) fun v8 H3 =>
 doQ (Zx v8 0) fun v9 =>
 doQ (Zx v8 1) fun v10 =>
 Q (.tup [v9,v10]) H3))
theorem jT(dep:Nat)(x0 x1 x2 x3:AV)(H:Heap)(Q:AV→Heap→Prop)(h : ∀g,fF dep g x0 x1 x2 x3 H Q):GoL env Tryz.f64 (dep+1) [.code fC] [(0,x0),(1,x1),(2,x2),(3,x3)] H Q:=⟨fun g=>aH (live:=kb) (cut:=ko) (n:=500) (Eq.mp (by kernel_rfl) (h g))⟩
noncomputable def nT:Code:=(Tryz.f65.body).getD .skip
def tO:Nat→Option (List Nat):=fun i=>none
def tY:Nat→Bool:=fun i=>false
def nY(dep:Nat)(g:Nat→AV)(x0:AV)(H:Heap)(Q:AV→Heap→Prop):Prop :=
 doQ (ZN x0) fun v1 =>
 doQ (Zd 129 v1 5) fun v2 =>
 doQ (Zb H 41 v2) fun v3 =>
 Q (.tup [v3,(.v (.int .i64 0))]) H
theorem tA(dep:Nat)(x0:AV)(H:Heap)(Q:AV→Heap→Prop)(h : ∀g,nY dep g x0 H Q):GoL env Tryz.f65 (dep+1) [.code nT] [(0,x0)] H Q:=⟨fun g=>aH (live:=tO) (cut:=tY) (n:=500) (Eq.mp (by kernel_rfl) (h g))⟩
noncomputable def fj:Code:=(Tryz.f69.body).getD .skip
def jM:Nat→Option (List Nat):=fun i=>none
def jP:Nat→Bool:=fun i=>false
def fm(dep:Nat)(g:Nat→AV)(x0 x1 x2 x3:AV)(H:Heap)(Q:AV→Heap→Prop):Prop :=
 doW (Zi H dep 4 25 x0) fun v1 H1 =>
 doQ (Zb H1 25 v1) fun v2 =>
 doW (ZC dep H1 15 v2 x1) fun v3 H2 =>
 doQ (Zx v3 0) fun v4 =>
 doQ (Zx v3 1) fun v5 =>
 doQ (ZE v5) fun v6 =>
 br (some v6) (
 Q (.tup [(.v (.int .i64 0)),(.v (.int .i64 8))]) H2) (
 doQ (Ze 42 21 0 x2) fun v7 =>
 br (some v7) (
 Q (.tup [(.v (.int .i64 0)),x2]) H2) (
 doW (ZB dep H2 27 x3 v4) fun v8 H3 =>
 doQ (Zx v8 0) fun v9 =>
 doQ (Zx v8 1) fun v10 =>
 Q (.tup [v9,v10]) H3))
theorem jI(dep:Nat)(x0 x1 x2 x3:AV)(H:Heap)(Q:AV→Heap→Prop)(h : ∀g,fm dep g x0 x1 x2 x3 H Q):GoL env Tryz.f69 (dep+1) [.code fj] [(0,x0),(1,x1),(2,x2),(3,x3)] H Q:=⟨fun g=>aH (live:=jM) (cut:=jP) (n:=500) (Eq.mp (by kernel_rfl) (h g))⟩
noncomputable def nR:Code:=(Tryz.f71.body).getD .skip
def tM:Nat→Option (List Nat):=fun i=>none
def tW:Nat→Bool:=fun i=>false
def nW(dep:Nat)(g:Nat→AV)(x0 x1:AV)(H:Heap)(Q:AV→Heap→Prop):Prop :=
 doQ (Zb H 38 x1) fun v1 =>
 doW (aF env true (limf env) (limt env (dep+1)) H (⟨(dep+1),7,Heap.gen H (dep+1) 7,0⟩:Ref) (some (.fn (.func 72) [] [])) [x0,v1]) fun v2 H1 =>
 Q (.tup [v2,(.v (.int .i64 0))]) H1
theorem tx(dep:Nat)(x0 x1:AV)(H:Heap)(Q:AV→Heap→Prop)(h : ∀g,nW dep g x0 x1 H Q):GoL env Tryz.f71 (dep+1) [.code nR] [(0,x0),(1,x1)] H Q:=⟨fun g=>aH (live:=tM) (cut:=tW) (n:=500) (Eq.mp (by kernel_rfl) (h g))⟩
noncomputable def fD:Code:=(Tryz.f72.body).getD .skip
def ke:Nat→Option (List Nat):=fun i=>none
def kp:Nat→Bool:=fun i=>false
def bM(dep:Nat)(g:Nat→AV)(x0 x1:AV)(H:Heap)(Q:AV→Heap→Prop):Prop :=
 doW (Zi H dep 3 38 x1) fun v1 H1 =>
 doQ (ZN x0) fun v2 =>
 doQ (Zd 129 v2 5) fun v3 =>
 doQ (Zb H1 41 v3) fun v4 =>
 doQ (Zb H1 38 v1) fun v5 =>
 doW (aF env false (limf env) (limt env (dep+1)) H1 (⟨(dep+1),13,Heap.gen H1 (dep+1) 13,0⟩:Ref) (some (.fn (.func 137) [] [])) [v4,v5]) fun v6 H2 =>
 doQ (Ze 42 14 0 v6) fun v7 =>
 br (some v7) (
 Q v6 H2) (
 doQ (ZN x0) fun v8 =>
 doQ (Zd 129 v8 0) fun v9 =>
 doQ (Zb H2 25 v9) fun v10 =>
 doQ (Zd 38 v1 1) fun v11 =>
 doQ (Zd 31 v11 0) fun v12 =>
 doQ (Zb H2 29 v12) fun v13 =>
 doW (ZY dep H2 25 v10 v13) fun v14 H3 =>
 doQ (Zx v14 0) fun v15 =>
 doQ (Zx v14 1) fun v16 =>
 doW (Zm H3 dep 6 81) fun v17 H4 =>
 doW (Zo H4 81 v17 v15) fun v18 H5 =>
 doQ (Zd 38 v1 0) fun v19 =>
 doQ (Zb H5 5 v19) fun v20 =>
 doQ (ZK 5 29 v20) fun v21 =>
 gQ v21 true (ZF x0) fun v22 =>
 gQ v21 true (ZN v22) fun v23 =>
 gQ v21 true (Zd 129 v23 4) fun v24 =>
 gQ v21 true (Zb H5 127 v24) fun v25 =>
 gQ v21 true (Zd 38 v1 1) fun v26 =>
 gQ v21 true (Zd 31 v26 0) fun v27 =>
 gQ v21 true (Zb H5 29 v27) fun v28 =>
 gQ v21 true (ZI H5 127 v25 v28) fun v29 =>
 gQ v21 true (px env.P 81 (some v29) 3) fun v30 =>
 gQ v21 true (Zd 38 v1 3) fun v31 =>
 gQ v21 true (Zd 35 v31 1) fun v32 =>
 gQ v21 true (Zb H5 3 v32) fun v33 =>
 gQ v21 true (ZG 3 40 43 v30 v33) fun v34 =>
 gQ v21 true (Zd 81 v17 3) fun v35 =>
 gQ v21 true (Zb H5 3 v35) fun v36 =>
 gQ v21 true (qBin env.P .gtr 3 (Operand.tmp 44) (Operand.tmp 46) (some v34) (some v36)) fun v37 =>
 doQ (Zg v21 v37) fun v38 =>
 br (some v38) (
 Q (.v (.int .i64 9)) H5) (
 Q (.v (.int .i64 0)) H5))
theorem jW(dep:Nat)(x0 x1:AV)(H:Heap)(Q:AV→Heap→Prop)(h : ∀g,bM dep g x0 x1 H Q):GoL env Tryz.f72 (dep+1) [.code fD] [(0,x0),(1,x1)] H Q:=⟨fun g=>aH (live:=ke) (cut:=kp) (n:=500) (Eq.mp (by kernel_rfl) (h g))⟩
noncomputable def eF:Code:=(Tryz.f75.body).getD .skip
def iW:Nat→Option (List Nat):=fun i=>none
def iY:Nat→Bool:=fun i=>false
def eG(dep:Nat)(g:Nat→AV)(x0 x1 x2 x3:AV)(H:Heap)(Q:AV→Heap→Prop):Prop :=
 doW (Zi H dep 4 25 x0) fun v1 H1 =>
 doQ (Zb H1 25 v1) fun v2 =>
 doW (ZC dep H1 15 v2 x1) fun v3 H2 =>
 doQ (Zx v3 0) fun v4 =>
 doQ (Zx v3 1) fun v5 =>
 doQ (ZE v5) fun v6 =>
 br (some v6) (
 Q (.tup [(.v (.slice none 0 0)),(.v (.int .i64 8))]) H2) (
 doQ (Ze 42 21 0 x2) fun v7 =>
 br (some v7) (
 Q (.tup [(.v (.slice none 0 0)),x2]) H2) (
 doW (ZB dep H2 27 x3 v4) fun v8 H3 =>
 doQ (Zx v8 0) fun v9 =>
 doQ (Zx v8 1) fun v10 =>
 Q (.tup [v9,v10]) H3))
theorem iV(dep:Nat)(x0 x1 x2 x3:AV)(H:Heap)(Q:AV→Heap→Prop)(h : ∀g,eG dep g x0 x1 x2 x3 H Q):GoL env Tryz.f75 (dep+1) [.code eF] [(0,x0),(1,x1),(2,x2),(3,x3)] H Q:=⟨fun g=>aH (live:=iW) (cut:=iY) (n:=500) (Eq.mp (by kernel_rfl) (h g))⟩
noncomputable def m8:Code:=(Tryz.f77.body).getD .skip
noncomputable def gj:List Item:=(bL 2 400 [.code m8]).getD []
def qG:Nat→Option (List Nat):=fun i=>cond (Nat.beq i 2) (some [12,3,1,10,11]) (none)
def qK:Nat→Bool:=fun i=>false
def qU(dep:Nat)(g:Nat→AV)(x0 x1:AV)(H:Heap)(Q:AV→Heap→Prop):Prop :=
 doQ (ZN x0) fun v1 =>
 doQ (Zd 129 v1 2) fun v2 =>
 doQ (Zb H 26 v2) fun v3 =>
 doQ (Zz H dep 11 26 v3) fun v4 =>
  GoL env Tryz.f77 (dep+1) gj [(12,(.v (.int .i64 0))),(3,(.v (.slice none 0 0))),(1,x1),(10,v3),(11,v4)] H Q
theorem xm(dep:Nat)(x0 x1:AV)(H:Heap)(Q:AV→Heap→Prop)(h : ∀g,qU dep g x0 x1 H Q):GoL env Tryz.f77 (dep+1) [.code m8] [(0,x0),(1,x1)] H Q:=⟨fun g=>aH (live:=qG) (cut:=qK) (n:=500) (Eq.mp (by kernel_rfl) (h g))⟩
def dP(dep:Nat)(g:Nat→AV)(x12 x3 x1 x10 x11:AV)(H:Heap)(Q:AV→Heap→Prop):Prop :=
 doQ (Zp 3 12 11 x12 x11) fun v1 =>
 br (some v1) (
 doQ (Zu H 26 x10 x12) fun v2 =>
 doQ (Zb H 62 v2) fun v3 =>
 doW (Zm H dep 6 62) fun v4 H1 =>
 doW (Zo H1 62 v4 v3) fun v5 H2 =>
 doQ (Zd 62 v4 0) fun v6 =>
 doQ (Zb H2 5 v6) fun v7 =>
 doQ (ZO 5 17 v7) fun v8 =>
 gQ v8 false (Zd 62 v4 2) fun v9 =>
 gQ v8 false (Zd 38 v9 1) fun v10 =>
 gQ v8 false (Zd 31 v10 0) fun v11 =>
 gQ v8 false (Zb H2 29 v11) fun v12 =>
 gQ v8 false (Zb H2 29 x1) fun v13 =>
 gW v8 false H2 (Z2 dep H2 25 v12 v13) fun v14 H3 =>
 doQ (Zl v8 v14) fun v15 =>
 br (some v15) (
 doQ (Zb H3 62 v4) fun v16 =>
 doW (iI env.P false true H3 (⟨(dep+1),29,Heap.gen H3 (dep+1) 29,0⟩:Ref) 26 1 (some [(0,v16)])) fun v17 H4 =>
 doW (ZS H4 dep 30 26 26 x3 v17) fun v18 H5 =>
 doQ (Zf 3 12 1 x12) fun v19 =>
  GoL env Tryz.f77 (dep+1) gj [(12,v19),(3,v18),(1,x1),(10,x10),(11,x11)] H5 Q) (
 doQ (Zf 3 12 1 x12) fun v16 =>
  GoL env Tryz.f77 (dep+1) gj [(12,v16),(3,x3),(1,x1),(10,x10),(11,x11)] H3 Q)) (
 Q (.tup [x3,(.v (.int .i64 0))]) H)
theorem oh(dep:Nat)(x12 x3 x1 x10 x11:AV)(H:Heap)(Q:AV→Heap→Prop)(h : ∀g,dP dep g x12 x3 x1 x10 x11 H Q):GoL env Tryz.f77 (dep+1) gj [(12,x12),(3,x3),(1,x1),(10,x10),(11,x11)] H Q:=cU fun g=>aH (live:=qG) (cut:=qK) (n:=500) (Eq.mp (by kernel_rfl) (h g))
noncomputable def eW:Code:=(Tryz.f87.body).getD .skip
def jv:Nat→Option (List Nat):=fun i=>none
def jz:Nat→Bool:=fun i=>false
def eX(dep:Nat)(g:Nat→AV)(x0 x1 x2 x3:AV)(H:Heap)(Q:AV→Heap→Prop):Prop :=
 doW (Zi H dep 4 25 x0) fun v1 H1 =>
 doW (Zm H1 dep 8 25) fun v2 H2 =>
 doQ (Zb H2 25 v1) fun v3 =>
 doW (ZC dep H2 15 v3 x1) fun v4 H3 =>
 doQ (Zx v4 0) fun v5 =>
 doQ (Zx v4 1) fun v6 =>
 doQ (ZE v6) fun v7 =>
 br (some v7) (
 doQ (Zb H3 25 v2) fun v8 =>
 doW (Zo H3 25 v2 v8) fun v9 H4 =>
 doQ (Z7 H4 v2 25) fun v10 =>
 Q (.tup [v10,(.v (.int .i64 8))]) H4) (
 doQ (Ze 42 21 0 x2) fun v8 =>
 br (some v8) (
 doQ (Zb H3 25 v2) fun v9 =>
 doW (Zo H3 25 v2 v9) fun v10 H4 =>
 doQ (Z7 H4 v2 25) fun v11 =>
 Q (.tup [v11,x2]) H4) (
 doW (ZB dep H3 27 x3 v5) fun v9 H4 =>
 doQ (Zx v9 0) fun v10 =>
 doQ (Zx v9 1) fun v11 =>
 doW (Zo H4 25 v2 v10) fun v12 H5 =>
 doQ (Z7 H5 v2 25) fun v13 =>
 Q (.tup [v13,v11]) H5))
theorem jq(dep:Nat)(x0 x1 x2 x3:AV)(H:Heap)(Q:AV→Heap→Prop)(h : ∀g,eX dep g x0 x1 x2 x3 H Q):GoL env Tryz.f87 (dep+1) [.code eW] [(0,x0),(1,x1),(2,x2),(3,x3)] H Q:=⟨fun g=>aH (live:=jv) (cut:=jz) (n:=500) (Eq.mp (by kernel_rfl) (h g))⟩
noncomputable def oH:Code:=(Tryz.f88.body).getD .skip
def uK:Nat→Option (List Nat):=fun i=>none
def uT:Nat→Bool:=fun i=>false
def oK(dep:Nat)(g:Nat→AV)(x0:AV)(H:Heap)(Q:AV→Heap→Prop):Prop :=
 doW (Zm H dep 2 25) fun v1 H1 =>
 doQ (ZN x0) fun v2 =>
 doQ (Zd 129 v2 1) fun v3 =>
 doQ (Zb H1 25 v3) fun v4 =>
 doW (Zo H1 25 v1 v4) fun v5 H2 =>
 doQ (Z7 H2 v1 25) fun v6 =>
 Q (.tup [v6,(.v (.int .i64 0))]) H2
theorem ug(dep:Nat)(x0:AV)(H:Heap)(Q:AV→Heap→Prop)(h : ∀g,oK dep g x0 H Q):GoL env Tryz.f88 (dep+1) [.code oH] [(0,x0)] H Q:=⟨fun g=>aH (live:=uK) (cut:=uT) (n:=500) (Eq.mp (by kernel_rfl) (h g))⟩
noncomputable def eR:Code:=(Tryz.f90.body).getD .skip
def je:Nat→Option (List Nat):=fun i=>none
def jj:Nat→Bool:=fun i=>false
def eU(dep:Nat)(g:Nat→AV)(x0 x1 x2 x3:AV)(H:Heap)(Q:AV→Heap→Prop):Prop :=
 doW (Zi H dep 4 25 x0) fun v1 H1 =>
 doW (Zm H1 dep 8 73) fun v2 H2 =>
 doQ (Zb H2 25 v1) fun v3 =>
 doW (ZC dep H2 15 v3 x1) fun v4 H3 =>
 doQ (Zx v4 0) fun v5 =>
 doQ (Zx v4 1) fun v6 =>
 doQ (ZE v6) fun v7 =>
 br (some v7) (
 doQ (Zb H3 73 v2) fun v8 =>
 doW (Zo H3 73 v2 v8) fun v9 H4 =>
 doQ (Z7 H4 v2 73) fun v10 =>
 Q (.tup [v10,(.v (.int .i64 8))]) H4) (
 doQ (Ze 42 21 0 x2) fun v8 =>
 br (some v8) (
 doQ (Zb H3 73 v2) fun v9 =>
 doW (Zo H3 73 v2 v9) fun v10 H4 =>
 doQ (Z7 H4 v2 73) fun v11 =>
 Q (.tup [v11,x2]) H4) (
 doW (ZB dep H3 27 x3 v5) fun v9 H4 =>
 doQ (Zx v9 0) fun v10 =>
 doQ (Zx v9 1) fun v11 =>
 doW (Zo H4 73 v2 v10) fun v12 H5 =>
 doQ (Z7 H5 v2 73) fun v13 =>
 Q (.tup [v13,v11]) H5))
theorem iZ(dep:Nat)(x0 x1 x2 x3:AV)(H:Heap)(Q:AV→Heap→Prop)(h : ∀g,eU dep g x0 x1 x2 x3 H Q):GoL env Tryz.f90 (dep+1) [.code eR] [(0,x0),(1,x1),(2,x2),(3,x3)] H Q:=⟨fun g=>aH (live:=je) (cut:=jj) (n:=500) (Eq.mp (by kernel_rfl) (h g))⟩
noncomputable def nS:Code:=(Tryz.f92.body).getD .skip
def tN:Nat→Option (List Nat):=fun i=>none
def tX:Nat→Bool:=fun i=>false
def nX(dep:Nat)(g:Nat→AV)(x0 x1:AV)(H:Heap)(Q:AV→Heap→Prop):Prop :=
 doW (Zm H dep 3 73) fun v1 H1 =>
 doQ (ZN x0) fun v2 =>
 doQ (Zd 129 v2 3) fun v3 =>
 doQ (Zb H1 126 v3) fun v4 =>
 doQ (Zb H1 31 x1) fun v5 =>
 doQ (ZI H1 126 v4 v5) fun v6 =>
 doW (Zo H1 73 v1 v6) fun v7 H2 =>
 doQ (Z7 H2 v1 73) fun v8 =>
 Q (.tup [v8,(.v (.int .i64 0))]) H2
theorem tz(dep:Nat)(x0 x1:AV)(H:Heap)(Q:AV→Heap→Prop)(h : ∀g,nX dep g x0 x1 H Q):GoL env Tryz.f92 (dep+1) [.code nS] [(0,x0),(1,x1)] H Q:=⟨fun g=>aH (live:=tN) (cut:=tX) (n:=500) (Eq.mp (by kernel_rfl) (h g))⟩
noncomputable def m9:Code:=(Tryz.f95.body).getD .skip
noncomputable def iP:List Item:=(bL 2 400 [.code m9]).getD []
def qH:Nat→Option (List Nat):=fun i=>cond (Nat.beq i 2) (some [13,2,1,11,12]) (none)
def qL:Nat→Bool:=fun i=>false
def qV(dep:Nat)(g:Nat→AV)(x0 x1 x2:AV)(H:Heap)(Q:AV→Heap→Prop):Prop :=
 doQ (ZN x0) fun v1 =>
 doQ (Zd 129 v1 2) fun v2 =>
 doQ (Zb H 26 v2) fun v3 =>
 doQ (Zz H dep 12 26 v3) fun v4 =>
  GoL env Tryz.f95 (dep+1) iP [(13,(.v (.int .i64 0))),(2,x2),(1,x1),(11,v3),(12,v4)] H Q
theorem xn(dep:Nat)(x0 x1 x2:AV)(H:Heap)(Q:AV→Heap→Prop)(h : ∀g,qV dep g x0 x1 x2 H Q):GoL env Tryz.f95 (dep+1) [.code m9] [(0,x0),(1,x1),(2,x2)] H Q:=⟨fun g=>aH (live:=qH) (cut:=qL) (n:=500) (Eq.mp (by kernel_rfl) (h g))⟩
def eY(dep:Nat)(g:Nat→AV)(x13 x2 x1 x11 x12:AV)(H:Heap)(Q:AV→Heap→Prop):Prop :=
 doQ (Zp 3 13 12 x13 x12) fun v1 =>
 br (some v1) (
 doQ (Zu H 26 x11 x13) fun v2 =>
 doQ (Zb H 62 v2) fun v3 =>
 doW (Zm H dep 7 62) fun v4 H1 =>
 doW (Zo H1 62 v4 v3) fun v5 H2 =>
 doQ (Zd 62 v4 0) fun v6 =>
 doQ (Zb H2 5 v6) fun v7 =>
 doQ (qBin env.P .eql 5 (Operand.tmp 18) (.const (.int .u8 2)) (some v7) (some (a8 2))) fun v8 =>
 gQ v8 true (Zd 62 v4 2) fun v9 =>
 gQ v8 true (Zd 38 v9 1) fun v10 =>
 gQ v8 true (Zb H2 31 v10) fun v11 =>
 gQ v8 true (Zb H2 31 x1) fun v12 =>
 gQ v8 true (Zn 31 23 24 v11 v12) fun v13 =>
 doQ (Zg v8 v13) fun v14 =>
 gQ v14 true (Zd 62 v4 2) fun v15 =>
 gQ v14 true (Zd 38 v15 2) fun v16 =>
 gQ v14 true (Zb H2 3 v16) fun v17 =>
 gQ v14 true (Zb H2 3 x2) fun v18 =>
 gQ v14 true (Zn 3 30 31 v17 v18) fun v19 =>
 doQ (Zg v14 v19) fun v20 =>
 br (some v20) (
 doQ (Zd 62 v4 3) fun v21 =>
 doQ (Zb H2 42 v21) fun v22 =>
 Q (.tup [v22,(.v (.int .i64 0))]) H2) (
 doQ (Zf 3 13 1 x13) fun v21 =>
  GoL env Tryz.f95 (dep+1) iP [(13,v21),(2,x2),(1,x1),(11,x11),(12,x12)] H2 Q)) (
 Q (.tup [(.v (.int .i64 0)),(.v (.int .i64 6))]) H)
theorem gb(dep:Nat)(x13 x2 x1 x11 x12:AV)(H:Heap)(Q:AV→Heap→Prop)(h : ∀g,eY dep g x13 x2 x1 x11 x12 H Q):GoL env Tryz.f95 (dep+1) iP [(13,x13),(2,x2),(1,x1),(11,x11),(12,x12)] H Q:=cU fun g=>aH (live:=qH) (cut:=qL) (n:=500) (Eq.mp (by kernel_rfl) (h g))
noncomputable def fh:Code:=(Tryz.f97.body).getD .skip
def jL:Nat→Option (List Nat):=fun i=>none
def jO:Nat→Bool:=fun i=>false
def fl(dep:Nat)(g:Nat→AV)(x0 x1 x2 x3:AV)(H:Heap)(Q:AV→Heap→Prop):Prop :=
 doW (Zi H dep 4 25 x0) fun v1 H1 =>
 doW (Zm H1 dep 8 81) fun v2 H2 =>
 doQ (Zb H2 25 v1) fun v3 =>
 doW (ZC dep H2 15 v3 x1) fun v4 H3 =>
 doQ (Zx v4 0) fun v5 =>
 doQ (Zx v4 1) fun v6 =>
 doQ (ZE v6) fun v7 =>
 br (some v7) (
 doQ (Zb H3 81 v2) fun v8 =>
 doW (Zo H3 81 v2 v8) fun v9 H4 =>
 doQ (Z7 H4 v2 81) fun v10 =>
 Q (.tup [v10,(.v (.int .i64 8))]) H4) (
 doQ (Ze 42 21 0 x2) fun v8 =>
 br (some v8) (
 doQ (Zb H3 81 v2) fun v9 =>
 doW (Zo H3 81 v2 v9) fun v10 H4 =>
 doQ (Z7 H4 v2 81) fun v11 =>
 Q (.tup [v11,x2]) H4) (
 doW (ZB dep H3 27 x3 v5) fun v9 H4 =>
 doQ (Zx v9 0) fun v10 =>
 doQ (Zx v9 1) fun v11 =>
 doW (Zo H4 81 v2 v10) fun v12 H5 =>
 doQ (Z7 H5 v2 81) fun v13 =>
 Q (.tup [v13,v11]) H5))
theorem jH(dep:Nat)(x0 x1 x2 x3:AV)(H:Heap)(Q:AV→Heap→Prop)(h : ∀g,fl dep g x0 x1 x2 x3 H Q):GoL env Tryz.f97 (dep+1) [.code fh] [(0,x0),(1,x1),(2,x2),(3,x3)] H Q:=⟨fun g=>aH (live:=jL) (cut:=jO) (n:=500) (Eq.mp (by kernel_rfl) (h g))⟩
noncomputable def qN:Code:=(Tryz.f98.body).getD .skip
def xy:Nat→Option (List Nat):=fun i=>none
def xF:Nat→Bool:=fun i=>false
def qS(dep:Nat)(g:Nat→AV)(x0 x1:AV)(H:Heap)(Q:AV→Heap→Prop):Prop :=
 doW (Zm H dep 3 81) fun v1 H1 =>
 doQ (ZN x0) fun v2 =>
 doQ (Zd 129 v2 4) fun v3 =>
 doQ (Zb H1 127 v3) fun v4 =>
 doQ (Zb H1 29 x1) fun v5 =>
 doQ (ZI H1 127 v4 v5) fun v6 =>
 doW (Zm H1 dep 5 81) fun v7 H2 =>
 doW (Zo H2 81 v7 v6) fun v8 H3 =>
 doQ (Zb H3 29 x1) fun v9 =>
 doQ (Zd 81 v7 0) fun v10 =>
 doW (Zo H3 29 v10 v9) fun v11 H4 =>
 doQ (Zb H4 81 v7) fun v12 =>
 doW (Zo H4 81 v1 v12) fun v13 H5 =>
 doQ (Z7 H5 v1 81) fun v14 =>
 Q (.tup [v14,(.v (.int .i64 0))]) H5
theorem xk(dep:Nat)(x0 x1:AV)(H:Heap)(Q:AV→Heap→Prop)(h : ∀g,qS dep g x0 x1 H Q):GoL env Tryz.f98 (dep+1) [.code qN] [(0,x0),(1,x1)] H Q:=⟨fun g=>aH (live:=xy) (cut:=xF) (n:=500) (Eq.mp (by kernel_rfl) (h g))⟩
noncomputable def rJ:Code:=(Tryz.f100.body).getD .skip
noncomputable def gD:List Item:=(bL 6 400 [.code rJ]).getD []
def wN:Nat→Option (List Nat):=fun i=>cond (Nat.beq i 6) (some [28,6,7,26,27]) (none)
def wU:Nat→Bool:=fun i=>false
def oJ(dep:Nat)(g:Nat→AV)(x0 x1:AV)(H:Heap)(Q:AV→Heap→Prop):Prop :=
 doW (Zi H dep 2 25 x0) fun v1 H1 =>
 doQ (Zb H1 25 v1) fun v2 =>
 doW (aF env true (limf env) (limt env (dep+1)) H1 (⟨(dep+1),11,Heap.gen H1 (dep+1) 11,0⟩:Ref) (some (.fn (.func 102) [] [])) [v2]) fun v3 H2 =>
 doQ (Ze 42 11 0 v3) fun v4 =>
 gQ v4 false (ZF x1) fun v5 =>
 gQ v4 false (Zz H2 dep 15 26 v5) fun v6 =>
 gQ v4 false (Zr 3 15 2048 v6) fun v7 =>
 doQ (Zl v4 v7) fun v8 =>
 br (some v8) (
 Q (.tup [(.v (.pointer none)),(.v (.bool false))]) H2) (
 doQ (Zb H2 25 v1) fun v9 =>
 doQ (Zb H2 25 v1) fun v10 =>
 doW (kA env false (limf env) (limt env (dep+1)) H2 (⟨(dep+1),20,Heap.gen H2 (dep+1) 20,0⟩:Ref) (some (.fn (.func 160) [] [])) [v10]) fun v11 H3 =>
 doW (ZM H3 dep 21) fun v12 H4 =>
 doW (ZM H4 dep 22) fun v13 H5 =>
 doQ (ff env.P 129 (some [(0,v9),(1,v11),(3,v12),(4,v13)])) fun v14 =>
 doW (Zi H5 dep 24 129 v14) fun v15 H6 =>
 doW (aF env true (limf env) (limt env (dep+1)) H6 (⟨(dep+1),25,Heap.gen H6 (dep+1) 25,0⟩:Ref) (some (.fn (.func 84) [] [])) []) fun v16 H7 =>
 doQ (Zz H7 dep 27 26 x1) fun v17 =>
  GoL env Tryz.f100 (dep+1) gD [(28,(.v (.int .i64 0))),(6,v15),(7,v16),(26,x1),(27,v17)] H7 Q)
theorem CB(dep:Nat)(x0 x1:AV)(H:Heap)(Q:AV→Heap→Prop)(h : ∀g,oJ dep g x0 x1 H Q):GoL env Tryz.f100 (dep+1) [.code rJ] [(0,x0),(1,x1)] H Q:=⟨fun g=>aH (live:=wN) (cut:=wU) (n:=500) (Eq.mp (by kernel_rfl) (h g))⟩
def mI(dep:Nat)(g:Nat→AV)(x28 x6 x7 x26 x27:AV)(H:Heap)(Q:AV→Heap→Prop):Prop :=
 doQ (Zp 3 28 27 x28 x27) fun v1 =>
 br (some v1) (
 doQ (Zu H 26 x26 x28) fun v2 =>
 doQ (Zb H 62 v2) fun v3 =>
 doW (Zm H dep 9 62) fun v4 H1 =>
 doW (Zo H1 62 v4 v3) fun v5 H2 =>
 doQ (Zb H2 62 v4) fun v6 =>
 doW (aF env true (limf env) (limt env (dep+1)) H2 (⟨(dep+1),33,Heap.gen H2 (dep+1) 33,0⟩:Ref) (some (.fn (.func 82) [] [])) [v6]) fun v7 H3 =>
 doQ (Ze 42 33 0 v7) fun v8 =>
 gQ v8 false (ZF x7) fun v9 =>
 gQ v8 false (Zd 62 v4 0) fun v10 =>
 gQ v8 false (Zb H3 5 v10) fun v11 =>
 gQ v8 false (ZI H3 151 v9 v11) fun v12 =>
 gQ v8 false (px env.P 150 (some v12) 0) fun v13 =>
 gQ v8 false (ZF x6) fun v14 =>
 gQ v8 false (Zb H3 62 v4) fun v15 =>
 gW v8 false H3 (ZR dep H3 43 v13 v14 v15) fun v16 H4 =>
 gQ v8 false (ZE v16) fun v17 =>
 doQ (Zl v8 v17) fun v18 =>
 br (some v18) (
 Q (.tup [(.v (.pointer none)),(.v (.bool false))]) H4) (
 doQ (Zd 62 v4 0) fun v19 =>
 doQ (Zb H4 5 v19) fun v20 =>
 doQ (ZI H4 151 x7 v20) fun v21 =>
 doQ (px env.P 150 (some v21) 1) fun v22 =>
 doQ (Zb H4 62 v4) fun v23 =>
 doW (ZR dep H4 53 v22 x6 v23) fun v24 H5 =>
 doQ (ZN x6) fun v25 =>
 doQ (Zd 129 v25 2) fun v26 =>
 doQ (Zb H5 26 v26) fun v27 =>
 doQ (Zb H5 62 v4) fun v28 =>
 doW (aF env false (limf env) (limt env (dep+1)) H5 (⟨(dep+1),60,Heap.gen H5 (dep+1) 60,0⟩:Ref) (some (.fn (.func 161) [] [])) [v28]) fun v29 H6 =>
 doW (Z5 H6 dep 61 26 1 0 v29) fun v30 H7 =>
 doW (ZS H7 dep 62 26 26 v27 v30) fun v31 H8 =>
 doQ (ZN x6) fun v32 =>
 doQ (Zd 129 v32 2) fun v33 =>
 doW (Zo H8 26 v33 v31) fun v34 H9 =>
 doQ (Zf 3 28 1 x28) fun v35 =>
  GoL env Tryz.f100 (dep+1) gD [(28,v35),(6,x6),(7,x7),(26,x26),(27,x27)] H9 Q)) (
 Q (.tup [x6,(.v (.bool true))]) H)
theorem oO(dep:Nat)(x28 x6 x7 x26 x27:AV)(H:Heap)(Q:AV→Heap→Prop)(h : ∀g,mI dep g x28 x6 x7 x26 x27 H Q):GoL env Tryz.f100 (dep+1) gD [(28,x28),(6,x6),(7,x7),(26,x26),(27,x27)] H Q:=cU fun g=>aH (live:=wN) (cut:=wU) (n:=500) (Eq.mp (by kernel_rfl) (h g))
noncomputable def pP:Code:=(Tryz.f145.body).getD .skip
def wa:Nat→Option (List Nat):=fun i=>none
def wx:Nat→Bool:=fun i=>false
def pZ(dep:Nat)(g:Nat→AV)(x0 x1:AV)(H:Heap)(Q:AV→Heap→Prop):Prop :=
 doW (Zi H dep 3 62 x1) fun v1 H1 =>
 doQ (Zd 62 v1 2) fun v2 =>
 doQ (Zd 38 v2 1) fun v3 =>
 doQ (Zd 31 v3 0) fun v4 =>
 doQ (Zb H1 29 v4) fun v5 =>
 doW (ZZ dep H1 13 x0 v5) fun v6 H2 =>
 doQ (Zx v6 0) fun v7 =>
 doQ (Zx v6 1) fun v8 =>
 doQ (ZN x0) fun v9 =>
 doQ (Zd 129 v9 3) fun v10 =>
 doQ (Zb H2 126 v10) fun v11 =>
 doQ (Zd 62 v1 2) fun v12 =>
 doQ (Zd 38 v12 1) fun v13 =>
 doQ (Zb H2 31 v13) fun v14 =>
 doQ (ZI H2 126 v11 v14) fun v15 =>
 doQ (px env.P 73 (some v15) 0) fun v16 =>
 doQ (ZE v16) fun v17 =>
 gQ v17 true (ZF x0) fun v18 =>
 gQ v17 true (Zd 62 v1 1) fun v19 =>
 gQ v17 true (Zb H2 3 v19) fun v20 =>
 gQ v17 true (Zd 62 v1 2) fun v21 =>
 gQ v17 true (Zd 38 v21 1) fun v22 =>
 gQ v17 true (Zd 31 v22 0) fun v23 =>
 gQ v17 true (Zb H2 29 v23) fun v24 =>
 gW v17 true H2 (aF env true (limf env) (limt env (dep+1)) H2 (⟨(dep+1),34,Heap.gen H2 (dep+1) 34,0⟩:Ref) (some (.fn (.func 147) [] [])) [v18,v20,v24]) fun v25 H3 =>
 doQ (Zg v17 v25) fun v26 =>
 gQ v26 true (ZF v7) fun v27 =>
 doQ (Zg v26 v27) fun v28 =>
 Q v28 H3
theorem vE(dep:Nat)(x0 x1:AV)(H:Heap)(Q:AV→Heap→Prop)(h : ∀g,pZ dep g x0 x1 H Q):GoL env Tryz.f145 (dep+1) [.code pP] [(0,x0),(1,x1)] H Q:=⟨fun g=>aH (live:=wa) (cut:=wx) (n:=500) (Eq.mp (by kernel_rfl) (h g))⟩
noncomputable def gq:Code:=(Tryz.f146.body).getD .skip
def lF:Nat→Option (List Nat):=fun i=>none
def lY:Nat→Bool:=fun i=>false
def gA(dep:Nat)(g:Nat→AV)(x0 x1:AV)(H:Heap)(Q:AV→Heap→Prop):Prop :=
 doW (Zi H dep 3 29 x1) fun v1 H1 =>
 doQ (ZN x0) fun v2 =>
 doQ (Zd 129 v2 0) fun v3 =>
 doQ (Zb H1 25 v3) fun v4 =>
 doQ (Zb H1 29 v1) fun v5 =>
 doW (ZY dep H1 15 v4 v5) fun v6 H2 =>
 doQ (Zx v6 0) fun v7 =>
 doQ (Zx v6 1) fun v8 =>
 doW (Zm H2 dep 6 81) fun v9 H3 =>
 doW (Zo H3 81 v9 v7) fun v10 H4 =>
 doQ (ZN x0) fun v11 =>
 doQ (Zd 129 v11 4) fun v12 =>
 doQ (Zb H4 127 v12) fun v13 =>
 doQ (Zb H4 29 v1) fun v14 =>
 doQ (ZI H4 127 v13 v14) fun v15 =>
 doW (Zm H4 dep 8 81) fun v16 H5 =>
 doW (Zo H5 81 v16 v15) fun v17 H6 =>
 doQ (Zd 81 v16 1) fun v18 =>
 doQ (Zb H6 3 v18) fun v19 =>
 doQ (Zd 81 v9 1) fun v20 =>
 doQ (Zb H6 3 v20) fun v21 =>
 doQ (Zp 3 25 27 v19 v21) fun v22 =>
 doQ (Zd 81 v16 2) fun v23 =>
 doQ (Zb H6 3 v23) fun v24 =>
 doQ (Zd 81 v9 2) fun v25 =>
 doQ (Zb H6 3 v25) fun v26 =>
 doQ (Zp 3 30 32 v24 v26) fun v27 =>
 Q (.tup [v22,v27]) H6
theorem lj(dep:Nat)(x0 x1:AV)(H:Heap)(Q:AV→Heap→Prop)(h : ∀g,gA dep g x0 x1 H Q):GoL env Tryz.f146 (dep+1) [.code gq] [(0,x0),(1,x1)] H Q:=⟨fun g=>aH (live:=lF) (cut:=lY) (n:=500) (Eq.mp (by kernel_rfl) (h g))⟩
noncomputable def gJ:Code:=(Tryz.f147.body).getD .skip
def mi:Nat→Option (List Nat):=fun i=>none
def mm:Nat→Bool:=fun i=>false
def dV(dep:Nat)(g:Nat→AV)(x0 x1 x2:AV)(H:Heap)(Q:AV→Heap→Prop):Prop :=
 doW (Zi H dep 5 29 x2) fun v1 H1 =>
 doQ (ZN x0) fun v2 =>
 doQ (Zd 129 v2 1) fun v3 =>
 doQ (Zb H1 25 v3) fun v4 =>
 doQ (Zb H1 29 v1) fun v5 =>
 doW (aF env false (limf env) (limt env (dep+1)) H1 (⟨(dep+1),16,Heap.gen H1 (dep+1) 16,0⟩:Ref) (some (.fn (.func 174) [] [])) [v4,x1,v5]) fun v6 H2 =>
 doQ (Zx v6 0) fun v7 =>
 doQ (Zx v6 1) fun v8 =>
 doQ (Zk 42 19 0 v8) fun v9 =>
 gQ v9 true (ZF v7) fun v10 =>
 doQ (Zg v9 v10) fun v11 =>
 Q v11 H2
theorem mg(dep:Nat)(x0 x1 x2:AV)(H:Heap)(Q:AV→Heap→Prop)(h : ∀g,dV dep g x0 x1 x2 H Q):GoL env Tryz.f147 (dep+1) [.code gJ] [(0,x0),(1,x1),(2,x2)] H Q:=⟨fun g=>aH (live:=mi) (cut:=mm) (n:=500) (Eq.mp (by kernel_rfl) (h g))⟩
noncomputable def pO:Code:=(Tryz.f148.body).getD .skip
def vZ:Nat→Option (List Nat):=fun i=>none
def wo:Nat→Bool:=fun i=>false
def pY(dep:Nat)(g:Nat→AV)(x0 x1:AV)(H:Heap)(Q:AV→Heap→Prop):Prop :=
 doW (Zi H dep 3 62 x1) fun v1 H1 =>
 doQ (ZN x0) fun v2 =>
 doQ (Zd 129 v2 3) fun v3 =>
 doQ (Zb H1 126 v3) fun v4 =>
 doQ (Zd 62 v1 2) fun v5 =>
 doQ (Zd 38 v5 1) fun v6 =>
 doQ (Zb H1 31 v6) fun v7 =>
 doQ (Zd 62 v1 1) fun v8 =>
 doQ (Zb H1 3 v8) fun v9 =>
 doQ (ff env.P 73 (some [(0,(.v (.bool true))),(1,v9)])) fun v10 =>
 doW (da env.P H1 126 (some v4) (some v7) (some v10)) fun v11 H2 =>
 doQ (ZN x0) fun v12 =>
 doQ (Zd 129 v12 4) fun v13 =>
 doQ (Zb H2 127 v13) fun v14 =>
 doQ (Zd 62 v1 2) fun v15 =>
 doQ (Zd 38 v15 1) fun v16 =>
 doQ (Zd 31 v16 0) fun v17 =>
 doQ (Zb H2 29 v17) fun v18 =>
 doQ (ZI H2 127 v14 v18) fun v19 =>
 doW (Zm H2 dep 4 81) fun v20 H3 =>
 doW (Zo H3 81 v20 v19) fun v21 H4 =>
 doQ (Zd 81 v20 1) fun v22 =>
 doQ (Zb H4 3 v22) fun v23 =>
 doQ (Zf 3 25 1 v23) fun v24 =>
 doQ (Zd 81 v20 1) fun v25 =>
 doW (Zo H4 3 v25 v24) fun v26 H5 =>
 doQ (ZN x0) fun v27 =>
 doQ (Zd 129 v27 4) fun v28 =>
 doQ (Zb H5 127 v28) fun v29 =>
 doQ (Zd 62 v1 2) fun v30 =>
 doQ (Zd 38 v30 1) fun v31 =>
 doQ (Zd 31 v31 0) fun v32 =>
 doQ (Zb H5 29 v32) fun v33 =>
 doQ (Zb H5 81 v20) fun v34 =>
 doW (da env.P H5 127 (some v29) (some v33) (some v34)) fun v35 H6 =>
 Q (.v (.tuple #[])) H6
theorem vD(dep:Nat)(x0 x1:AV)(H:Heap)(Q:AV→Heap→Prop)(h : ∀g,pY dep g x0 x1 H Q):GoL env Tryz.f148 (dep+1) [.code pO] [(0,x0),(1,x1)] H Q:=⟨fun g=>aH (live:=vZ) (cut:=wo) (n:=500) (Eq.mp (by kernel_rfl) (h g))⟩
noncomputable def pN:Code:=(Tryz.f149.body).getD .skip
def vY:Nat→Option (List Nat):=fun i=>none
def wm:Nat→Bool:=fun i=>false
def pX(dep:Nat)(g:Nat→AV)(x0 x1:AV)(H:Heap)(Q:AV→Heap→Prop):Prop :=
 doW (Zi H dep 3 62 x1) fun v1 H1 =>
 doQ (ZN x0) fun v2 =>
 doQ (Zd 129 v2 3) fun v3 =>
 doQ (Zb H1 126 v3) fun v4 =>
 doQ (Zd 62 v1 2) fun v5 =>
 doQ (Zd 38 v5 1) fun v6 =>
 doQ (Zb H1 31 v6) fun v7 =>
 doQ (ZI H1 126 v4 v7) fun v8 =>
 doW (Zm H1 dep 5 73) fun v9 H2 =>
 doW (Zo H2 73 v9 v8) fun v10 H3 =>
 doQ (Zd 62 v1 2) fun v11 =>
 doQ (Zd 38 v11 1) fun v12 =>
 doQ (Zd 31 v12 0) fun v13 =>
 doQ (Zb H3 29 v13) fun v14 =>
 doW (ZZ dep H3 22 x0 v14) fun v15 H4 =>
 doQ (Zx v15 0) fun v16 =>
 doQ (Zx v15 1) fun v17 =>
 doQ (Zd 73 v9 0) fun v18 =>
 doQ (Zb H4 4 v18) fun v19 =>
 gQ v19 true (ZF x0) fun v20 =>
 gQ v19 true (Zd 73 v9 1) fun v21 =>
 gQ v19 true (Zb H4 3 v21) fun v22 =>
 gQ v19 true (Zd 62 v1 2) fun v23 =>
 gQ v19 true (Zd 38 v23 1) fun v24 =>
 gQ v19 true (Zd 31 v24 0) fun v25 =>
 gQ v19 true (Zb H4 29 v25) fun v26 =>
 gW v19 true H4 (kA env true (limf env) (limt env (dep+1)) H4 (⟨(dep+1),35,Heap.gen H4 (dep+1) 35,0⟩:Ref) (some (.fn (.func 147) [] [])) [v20,v22,v26]) fun v27 H5 =>
 doQ (Zg v19 v27) fun v28 =>
 gQ v28 true (Zd 62 v1 2) fun v29 =>
 gQ v28 true (Zd 38 v29 2) fun v30 =>
 gQ v28 true (Zb H5 3 v30) fun v31 =>
 gQ v28 true (Zd 73 v9 2) fun v32 =>
 gQ v28 true (Zb H5 3 v32) fun v33 =>
 gQ v28 true (Zf 3 42 1 v33) fun v34 =>
 gQ v28 true (Zn 3 40 43 v31 v34) fun v35 =>
 doQ (Zg v28 v35) fun v36 =>
 gQ v36 true (ZF v17) fun v37 =>
 doQ (Zg v36 v37) fun v38 =>
 gQ v38 true (Zd 62 v1 3) fun v39 =>
 gQ v38 true (Zb H5 42 v39) fun v40 =>
 gQ v38 true (ZF x0) fun v41 =>
 gQ v38 true (Zd 62 v1 2) fun v42 =>
 gQ v38 true (Zb H5 38 v42) fun v43 =>
 gW v38 true H5 (kA env true (limf env) (limt env (dep+1)) H5 (⟨(dep+1),55,Heap.gen H5 (dep+1) 55,0⟩:Ref) (some (.fn (.func 72) [] [])) [v41,v43]) fun v44 H6 =>
 gQ v38 true (Zn 42 51 55 v40 v44) fun v45 =>
 doQ (Zg v38 v45) fun v46 =>
  mb [(v35,v34)] [] [] H6 ∧
 (Q v46 H6)
theorem vC(dep:Nat)(x0 x1:AV)(H:Heap)(Q:AV→Heap→Prop)(h : ∀g,pX dep g x0 x1 H Q):GoL env Tryz.f149 (dep+1) [.code pN] [(0,x0),(1,x1)] H Q:=⟨fun g=>aH (live:=vY) (cut:=wm) (n:=500) (Eq.mp (by kernel_rfl) (h g))⟩
noncomputable def my:Code:=(Tryz.f150.body).getD .skip
def vX:Nat→Option (List Nat):=fun i=>none
def wj:Nat→Bool:=fun i=>false
def fH(dep:Nat)(g:Nat→AV)(x0 x1:AV)(H:Heap)(Q:AV→Heap→Prop):Prop :=
 doW (Zi H dep 3 62 x1) fun v1 H1 =>
 doQ (ZN x0) fun v2 =>
 doQ (Zd 129 v2 3) fun v3 =>
 doQ (Zb H1 126 v3) fun v4 =>
 doQ (Zd 62 v1 2) fun v5 =>
 doQ (Zd 38 v5 1) fun v6 =>
 doQ (Zb H1 31 v6) fun v7 =>
 doQ (ZI H1 126 v4 v7) fun v8 =>
 doQ (ZN x0) fun v9 =>
 doQ (Zd 129 v9 4) fun v10 =>
 doQ (Zb H1 127 v10) fun v11 =>
 doQ (Zd 62 v1 2) fun v12 =>
 doQ (Zd 38 v12 1) fun v13 =>
 doQ (Zd 31 v13 0) fun v14 =>
 doQ (Zb H1 29 v14) fun v15 =>
 doQ (ZI H1 127 v11 v15) fun v16 =>
 doW (Zm H1 dep 4 73) fun v17 H2 =>
 doW (Zm H2 dep 5 81) fun v18 H3 =>
 doW (Zo H3 73 v17 v8) fun v19 H4 =>
 doW (Zo H4 81 v18 v16) fun v20 H5 =>
  mb [(v10,v17),(v14,v17),(v11,v17)] [v17,v18] [] H5 ∧
 (doQ (Zd 73 v17 2) fun v21 =>
 doQ (Zb H5 3 v21) fun v22 =>
 doQ (Zf 3 24 1 v22) fun v23 =>
 doQ (Zd 73 v17 2) fun v24 =>
 doW (Zo H5 3 v24 v23) fun v25 H6 =>
 doQ (Zd 81 v18 2) fun v26 =>
 doQ (Zb H6 3 v26) fun v27 =>
 doQ (Zf 3 28 1 v27) fun v28 =>
 doQ (Zd 81 v18 2) fun v29 =>
 doW (Zo H6 3 v29 v28) fun v30 H7 =>
 doQ (Zd 62 v1 3) fun v31 =>
 doQ (Zb H7 42 v31) fun v32 =>
 doQ (Zk 42 32 0 v32) fun v33 =>
 br (some v33) (
 doQ (ZN x0) fun v34 =>
 doQ (Zd 129 v34 5) fun v35 =>
 doQ (Zb H7 41 v35) fun v36 =>
 doQ (Zd 62 v1 2) fun v37 =>
 doQ (Zb H7 38 v37) fun v38 =>
 doW (aF env false (limf env) (limt env (dep+1)) H7 (⟨(dep+1),41,Heap.gen H7 (dep+1) 41,0⟩:Ref) (some (.fn (.func 108) [] [])) [v38]) fun v39 H8 =>
 doW (Z5 H8 dep 42 41 1 0 v39) fun v40 H9 =>
 doW (ZS H9 dep 43 41 41 v36 v40) fun v41 H10 =>
 doQ (ZN x0) fun v42 =>
 doQ (Zd 129 v42 5) fun v43 =>
 doW (Zo H10 41 v43 v41) fun v44 H11 =>
 doQ (Zd 62 v1 2) fun v45 =>
 doQ (Zd 38 v45 0) fun v46 =>
 doQ (Zb H11 5 v46) fun v47 =>
 doQ (ZK 5 48 v47) fun v48 =>
 br (some v48) (
 doQ (Zd 81 v18 3) fun v49 =>
 doQ (Zb H11 3 v49) fun v50 =>
 doQ (Zd 62 v1 2) fun v51 =>
 doQ (Zd 38 v51 3) fun v52 =>
 doQ (Zd 35 v52 1) fun v53 =>
 doQ (Zb H11 3 v53) fun v54 =>
 doQ (ZG 3 51 55 v50 v54) fun v55 =>
 doQ (Zd 81 v18 3) fun v56 =>
 doW (Zo H11 3 v56 v55) fun v57 H12 =>
 doQ (ZN x0) fun v58 =>
 doQ (Zd 129 v58 3) fun v59 =>
 doQ (Zb H12 126 v59) fun v60 =>
 doQ (Zd 62 v1 2) fun v61 =>
 doQ (Zd 38 v61 1) fun v62 =>
 doQ (Zb H12 31 v62) fun v63 =>
 doQ (ZN x0) fun v64 =>
 doQ (Zd 129 v64 4) fun v65 =>
 doQ (Zb H12 127 v65) fun v66 =>
 doQ (Zd 62 v1 2) fun v67 =>
 doQ (Zd 38 v67 1) fun v68 =>
 doQ (Zd 31 v68 0) fun v69 =>
 doQ (Zb H12 29 v69) fun v70 =>
 doQ (Zb H12 73 v17) fun v71 =>
 doQ (Zb H12 81 v18) fun v72 =>
 doW (Yb H12 126 v60 v63) fun v73 H13 =>
 doQ (Zx v73 1) fun v74 =>
 doW (Ya H13 v60 v74 v71) fun v75 H14 =>
 doW (Yb H14 127 v66 v70) fun v76 H15 =>
 doQ (Zx v76 1) fun v77 =>
 doW (Ya H15 v66 v77 v72) fun v78 H16 =>
  mb [(v69,v60),(v17,v60),(v18,v60),(v18,v66)] [] [] H16 ∧
 (Q (.v (.tuple #[])) H16)) (
 doQ (ZN x0) fun v49 =>
 doQ (Zd 129 v49 3) fun v50 =>
 doQ (Zb H11 126 v50) fun v51 =>
 doQ (Zd 62 v1 2) fun v52 =>
 doQ (Zd 38 v52 1) fun v53 =>
 doQ (Zb H11 31 v53) fun v54 =>
 doQ (ZN x0) fun v55 =>
 doQ (Zd 129 v55 4) fun v56 =>
 doQ (Zb H11 127 v56) fun v57 =>
 doQ (Zd 62 v1 2) fun v58 =>
 doQ (Zd 38 v58 1) fun v59 =>
 doQ (Zd 31 v59 0) fun v60 =>
 doQ (Zb H11 29 v60) fun v61 =>
 doQ (Zb H11 73 v17) fun v62 =>
 doQ (Zb H11 81 v18) fun v63 =>
 doW (Yb H11 126 v51 v54) fun v64 H12 =>
 doQ (Zx v64 1) fun v65 =>
 doW (Ya H12 v51 v65 v62) fun v66 H13 =>
 doW (Yb H13 127 v57 v61) fun v67 H14 =>
 doQ (Zx v67 1) fun v68 =>
 doW (Ya H14 v57 v68 v63) fun v69 H15 =>
  mb [(v60,v51),(v17,v51),(v18,v51),(v18,v57)] [] [] H15 ∧
 (Q (.v (.tuple #[])) H15))) (
 doQ (ZN x0) fun v34 =>
 doQ (Zd 129 v34 3) fun v35 =>
 doQ (Zb H7 126 v35) fun v36 =>
 doQ (Zd 62 v1 2) fun v37 =>
 doQ (Zd 38 v37 1) fun v38 =>
 doQ (Zb H7 31 v38) fun v39 =>
 doQ (ZN x0) fun v40 =>
 doQ (Zd 129 v40 4) fun v41 =>
 doQ (Zb H7 127 v41) fun v42 =>
 doQ (Zd 62 v1 2) fun v43 =>
 doQ (Zd 38 v43 1) fun v44 =>
 doQ (Zd 31 v44 0) fun v45 =>
 doQ (Zb H7 29 v45) fun v46 =>
 doQ (Zb H7 73 v17) fun v47 =>
 doQ (Zb H7 81 v18) fun v48 =>
 doW (Yb H7 126 v36 v39) fun v49 H8 =>
 doQ (Zx v49 1) fun v50 =>
 doW (Ya H8 v36 v50 v47) fun v51 H9 =>
 doW (Yb H9 127 v42 v46) fun v52 H10 =>
 doQ (Zx v52 1) fun v53 =>
 doW (Ya H10 v42 v53 v48) fun v54 H11 =>
  mb [(v45,v36),(v17,v36),(v18,v36),(v18,v42)] [] [] H11 ∧
 (Q (.v (.tuple #[])) H11)))
theorem pf(dep:Nat)(x0 x1:AV)(H:Heap)(Q:AV→Heap→Prop)(h : ∀g,fH dep g x0 x1 H Q):GoL env Tryz.f150 (dep+1) [.code my] [(0,x0),(1,x1)] H Q:=⟨fun g=>aH (live:=vX) (cut:=wj) (n:=500) (Eq.mp (by kernel_rfl) (h g))⟩
noncomputable def pM:Code:=(Tryz.f151.body).getD .skip
def vW:Nat→Option (List Nat):=fun i=>none
def wi:Nat→Bool:=fun i=>false
def mB(dep:Nat)(g:Nat→AV)(x0 x1:AV)(H:Heap)(Q:AV→Heap→Prop):Prop :=
 doW (Zi H dep 3 62 x1) fun v1 H1 =>
 doQ (ZN x0) fun v2 =>
 doQ (Zd 129 v2 1) fun v3 =>
 doQ (Zb H1 25 v3) fun v4 =>
 doQ (Zd 62 v1 4) fun v5 =>
 doQ (Zb H1 60 v5) fun v6 =>
 doW (ZX dep H1 14 v4 v6) fun v7 H2 =>
 doQ (Zx v7 0) fun v8 =>
 doQ (Zx v7 1) fun v9 =>
 doW (Zm H2 dep 5 25) fun v10 H3 =>
 doW (Zo H3 25 v10 v8) fun v11 H4 =>
 doQ (Zk 42 17 0 v9) fun v12 =>
 Q v12 H4
theorem vB(dep:Nat)(x0 x1:AV)(H:Heap)(Q:AV→Heap→Prop)(h : ∀g,mB dep g x0 x1 H Q):GoL env Tryz.f151 (dep+1) [.code pM] [(0,x0),(1,x1)] H Q:=⟨fun g=>aH (live:=vW) (cut:=wi) (n:=500) (Eq.mp (by kernel_rfl) (h g))⟩
noncomputable def pL:Code:=(Tryz.f153.body).getD .skip
def vV:Nat→Option (List Nat):=fun i=>none
def wh:Nat→Bool:=fun i=>false
def pW(dep:Nat)(g:Nat→AV)(x0 x1:AV)(H:Heap)(Q:AV→Heap→Prop):Prop :=
 doW (Zi H dep 3 62 x1) fun v1 H1 =>
 doQ (ZN x0) fun v2 =>
 doQ (Zd 129 v2 1) fun v3 =>
 doQ (Zb H1 25 v3) fun v4 =>
 doQ (Zd 62 v1 4) fun v5 =>
 doQ (Zb H1 60 v5) fun v6 =>
 doW (ZX dep H1 12 v4 v6) fun v7 H2 =>
 doQ (Zx v7 0) fun v8 =>
 doQ (Zx v7 1) fun v9 =>
 doQ (ZN x0) fun v10 =>
 doQ (Zd 129 v10 1) fun v11 =>
 doW (Zo H2 25 v11 v8) fun v12 H3 =>
 Q (.v (.tuple #[])) H3
theorem vA(dep:Nat)(x0 x1:AV)(H:Heap)(Q:AV→Heap→Prop)(h : ∀g,pW dep g x0 x1 H Q):GoL env Tryz.f153 (dep+1) [.code pL] [(0,x0),(1,x1)] H Q:=⟨fun g=>aH (live:=vV) (cut:=wh) (n:=500) (Eq.mp (by kernel_rfl) (h g))⟩
end Go.Proofs.YtmkmimgokagimaaGreat
