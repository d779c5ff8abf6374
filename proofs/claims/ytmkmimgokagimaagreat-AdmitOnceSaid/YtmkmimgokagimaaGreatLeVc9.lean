/-
  What is to be shown of each function, computed from its code. No statement of a seat is proved here.
-/
import Derived.Test.YtmkmimgokagimaaGreatLeTy
set_option linter.unusedVariables false
set_option maxRecDepth 1000000
namespace Go.Proofs.YtmkmimgokagimaaGreat
open Go.Ab
noncomputable def gA:Code:=(Tryz.f13.body).getD .skip
noncomputable def de:List Item:=(bS 3 400 [.code gA]).getD []
def ku:Nat→Option (List Nat):=fun i=>cond (Nat.beq i 3) (some [8,1,7,2,3]) (none)
def kz:Nat→Bool:=fun i=>false
def gE(g:Nat→AV)(x0 x1 x2:AV)(H:Heap)(Q:AV→Heap→Prop):Prop :=
 doW (Zc H 3 25 x0) fun v1 H1 =>
  GoL env Tryz.f13 0 de [(8,(.v (.int .i64 0))),(1,x1),(7,(.v (.int .i64 0))),(2,x2),(3,v1)] H1 Q
theorem oS(x0 x1 x2:AV)(H:Heap)(Q:AV→Heap→Prop)(h : ∀g,gE g x0 x1 x2 H Q):GoL env Tryz.f13 0 [.code gA] [(0,x0),(1,x1),(2,x2)] H Q:=⟨fun g=>aJ (live:=ku) (cut:=kz) (n:=500) (Eq.mp (by kernel_rfl) (h g))⟩
def dN(g:Nat→AV)(x8 x1 x7 x2 x3:AV)(H:Heap)(Q:AV→Heap→Prop):Prop :=
 doQ (Zk H 11 26 x1) fun v1 =>
 doQ (Zp 3 9 11 x8 v1) fun v2 =>
 gQ v2 true (ZI x8) fun v3 =>
 gQ v2 true (Zs 3 14 300 v3) fun v4 =>
 doQ (Zf v2 v4) fun v5 =>
 br (some v5) (
 doQ (Zu H 26 x1 x8) fun v6 =>
 doQ (Zd 62 v6 2) fun v7 =>
 doQ (Zd 38 v7 3) fun v8 =>
 doQ (Zd 35 v8 1) fun v9 =>
 doQ (Zb H 3 v9) fun v10 =>
 doQ (aA env.P true (Heap.get H) (Ref.mk 0 27 (Heap.gen H 0 27) 0) .max #[3,3] [v10,(.v (.int .i64 0))]) fun v11 =>
 doQ (aA env.P true (Heap.get H) (Ref.mk 0 28 (Heap.gen H 0 28) 0) .min #[3,3] [v11,(.v (.int .i64 100))]) fun v12 =>
 doQ (Zu H 26 x1 x8) fun v13 =>
 doQ (Zd 62 v13 2) fun v14 =>
 doQ (Zd 38 v14 6) fun v15 =>
 doQ (Zb H 36 v15) fun v16 =>
 doQ (Zk H 35 36 v16) fun v17 =>
 doQ (aA env.P true (Heap.get H) (Ref.mk 0 36 (Heap.gen H 0 36) 0) .min #[3,3] [v17,(.v (.int .i64 1000))]) fun v18 =>
 doQ (Z9 H 37 3 3 v12 v18) fun v19 =>
 doQ (ZF 3 19 37 x7 v19) fun v20 =>
 doQ (Zh 3 17 1 x8) fun v21 =>
  GoL env Tryz.f13 0 de [(8,v21),(1,x1),(7,v20),(2,x2),(3,x3)] H Q) (
 doQ (Zb H 25 x3) fun v6 =>
 doW (Za true H 40 63 [v6]) fun v7 H1 =>
 gQ v7 false (ZI x1) fun v8 =>
 gQ v7 false (Zk H1 43 26 v8) fun v9 =>
 gQ v7 false (ZI x2) fun v10 =>
 gQ v7 false (Yf 3 43 44 v9 v10) fun v11 =>
 doQ (Zo v7 v11) fun v12 =>
 gQ v12 false (ZI x7) fun v13 =>
 gQ v12 false (Zr 3 48 300 v13) fun v14 =>
 doQ (Zo v12 v14) fun v15 =>
 Q v15 H1)
theorem jk(x8 x1 x7 x2 x3:AV)(H:Heap)(Q:AV→Heap→Prop)(h : ∀g,dN g x8 x1 x7 x2 x3 H Q):GoL env Tryz.f13 0 de [(8,x8),(1,x1),(7,x7),(2,x2),(3,x3)] H Q:=dk fun g=>aJ (live:=ku) (cut:=kz) (n:=500) (Eq.mp (by kernel_rfl) (h g))
noncomputable def pA:Code:=(Tryz.f17.body).getD .skip
def wH:Nat→Option (List Nat):=fun i=>none
def wY:Nat→Bool:=fun i=>false
def pQ(g:Nat→AV)(x0 x1 x2:AV)(H:Heap)(Q:AV→Heap→Prop):Prop :=
 doW (Zc H 3 25 x0) fun v1 H1 =>
 doW (Zc H1 5 38 x2) fun v2 H2 =>
 doQ (Zb H2 25 v1) fun v3 =>
 doQ (Zb H2 38 v2) fun v4 =>
 doW (Za false H2 11 70 [v4]) fun v5 H3 =>
 doQ (gI (.func 71) (some []) (some [v2])) fun v6 =>
 doW (Za true H3 13 69 [v3,x1,v5,v6]) fun v7 H4 =>
 doQ (Zw v7 0) fun v8 =>
 doQ (Zw v7 1) fun v9 =>
 Q (.tup [v8,v9]) H4
theorem vV(x0 x1 x2:AV)(H:Heap)(Q:AV→Heap→Prop)(h : ∀g,pQ g x0 x1 x2 H Q):GoL env Tryz.f17 0 [.code pA] [(0,x0),(1,x1),(2,x2)] H Q:=⟨fun g=>aJ (live:=wH) (cut:=wY) (n:=500) (Eq.mp (by kernel_rfl) (h g))⟩
noncomputable def tG:Code:=(Tryz.f23.body).getD .skip
def AW:Nat→Option (List Nat):=fun i=>none
def Bf:Nat→Bool:=fun i=>false
def tO(g:Nat→AV)(x0 x1 x2:AV)(H:Heap)(Q:AV→Heap→Prop):Prop :=
 doW (Zc H 3 25 x0) fun v1 H1 =>
 doW (Zc H1 5 62 x2) fun v2 H2 =>
 doQ (Zb H2 25 v1) fun v3 =>
 doQ (Zb H2 62 v2) fun v4 =>
 doW (Za false H2 11 82 [v4]) fun v5 H3 =>
 doQ (gI (.func 83) (some []) (some [v2])) fun v6 =>
 doW (Za true H3 13 81 [v3,x1,v5,v6]) fun v7 H4 =>
 doQ (Zw v7 0) fun v8 =>
 doQ (Zw v7 1) fun v9 =>
 Q (.tup [v8,v9]) H4
theorem AG(x0 x1 x2:AV)(H:Heap)(Q:AV→Heap→Prop)(h : ∀g,tO g x0 x1 x2 H Q):GoL env Tryz.f23 0 [.code tG] [(0,x0),(1,x1),(2,x2)] H Q:=⟨fun g=>aJ (live:=AW) (cut:=Bf) (n:=500) (Eq.mp (by kernel_rfl) (h g))⟩
noncomputable def qQ:Code:=(Tryz.f25.body).getD .skip
def xZ:Nat→Option (List Nat):=fun i=>none
def yi:Nat→Bool:=fun i=>false
def qW(g:Nat→AV)(x0 x1:AV)(H:Heap)(Q:AV→Heap→Prop):Prop :=
 doW (Zc H 2 25 x0) fun v1 H1 =>
 doW (Zg H1 4 25) fun v2 H2 =>
 doQ (Zb H2 25 v1) fun v3 =>
 doW (Za true H2 8 87 [v3,x1,(.v (.int .i64 0)),(.fn (.func 88) [] [])]) fun v4 H3 =>
 doQ (Zw v4 0) fun v5 =>
 doQ (Zw v4 1) fun v6 =>
 doW (Zl H3 25 v2 v5) fun v7 H4 =>
 doQ (ZV H4 v2 25) fun v8 =>
 Q (.tup [v8,v6]) H4
theorem xR(x0 x1:AV)(H:Heap)(Q:AV→Heap→Prop)(h : ∀g,qW g x0 x1 H Q):GoL env Tryz.f25 0 [.code qQ] [(0,x0),(1,x1)] H Q:=⟨fun g=>aJ (live:=xZ) (cut:=yi) (n:=500) (Eq.mp (by kernel_rfl) (h g))⟩
noncomputable def pB:Code:=(Tryz.f27.body).getD .skip
def wI:Nat→Option (List Nat):=fun i=>none
def wZ:Nat→Bool:=fun i=>false
def pR(g:Nat→AV)(x0 x1 x2:AV)(H:Heap)(Q:AV→Heap→Prop):Prop :=
 doW (Zc H 3 25 x0) fun v1 H1 =>
 doW (Zc H1 5 31 x2) fun v2 H2 =>
 doW (Zg H2 6 73) fun v3 H3 =>
 doQ (Zb H3 25 v1) fun v4 =>
 doQ (Zb H3 31 v2) fun v5 =>
 doW (Za false H3 11 91 [v5]) fun v6 H4 =>
 doQ (gI (.func 92) (some []) (some [v2])) fun v7 =>
 doW (Za true H4 13 90 [v4,x1,v6,v7]) fun v8 H5 =>
 doQ (Zw v8 0) fun v9 =>
 doQ (Zw v8 1) fun v10 =>
 doW (Zl H5 73 v3 v9) fun v11 H6 =>
 doQ (ZV H6 v3 73) fun v12 =>
 Q (.tup [v12,v10]) H6
theorem vW(x0 x1 x2:AV)(H:Heap)(Q:AV→Heap→Prop)(h : ∀g,pR g x0 x1 x2 H Q):GoL env Tryz.f27 0 [.code pB] [(0,x0),(1,x1),(2,x2)] H Q:=⟨fun g=>aJ (live:=wI) (cut:=wZ) (n:=500) (Eq.mp (by kernel_rfl) (h g))⟩
noncomputable def tH:Code:=(Tryz.f29.body).getD .skip
def AX:Nat→Option (List Nat):=fun i=>none
def Bg:Nat→Bool:=fun i=>false
def tP(g:Nat→AV)(x0 x1 x2 x3:AV)(H:Heap)(Q:AV→Heap→Prop):Prop :=
 doW (Zc H 4 25 x0) fun v1 H1 =>
 doW (Zc H1 6 31 x2) fun v2 H2 =>
 doW (Zc H2 7 3 x3) fun v3 H3 =>
 doQ (Zb H3 25 v1) fun v4 =>
 doQ (Zb H3 31 v2) fun v5 =>
 doW (Za false H3 13 91 [v5]) fun v6 H4 =>
 doQ (gI (.func 95) (some []) (some [v2,v3])) fun v7 =>
 doW (Za true H4 15 69 [v4,x1,v6,v7]) fun v8 H5 =>
 doQ (Zw v8 0) fun v9 =>
 doQ (Zw v8 1) fun v10 =>
 Q (.tup [v9,v10]) H5
theorem AH(x0 x1 x2 x3:AV)(H:Heap)(Q:AV→Heap→Prop)(h : ∀g,tP g x0 x1 x2 x3 H Q):GoL env Tryz.f29 0 [.code tH] [(0,x0),(1,x1),(2,x2),(3,x3)] H Q:=⟨fun g=>aJ (live:=AX) (cut:=Bg) (n:=500) (Eq.mp (by kernel_rfl) (h g))⟩
noncomputable def tF:Code:=(Tryz.f31.body).getD .skip
def AU:Nat→Option (List Nat):=fun i=>none
def Be:Nat→Bool:=fun i=>false
def tN(g:Nat→AV)(x0 x1 x2:AV)(H:Heap)(Q:AV→Heap→Prop):Prop :=
 doW (Zc H 3 25 x0) fun v1 H1 =>
 doW (Zc H1 5 29 x2) fun v2 H2 =>
 doW (Zg H2 6 81) fun v3 H3 =>
 doQ (Zb H3 25 v1) fun v4 =>
 doQ (Zb H3 29 v2) fun v5 =>
 doW (Za false H3 11 76 [v5]) fun v6 H4 =>
 doQ (gI (.func 98) (some []) (some [v2])) fun v7 =>
 doW (Za true H4 13 97 [v4,x1,v6,v7]) fun v8 H5 =>
 doQ (Zw v8 0) fun v9 =>
 doQ (Zw v8 1) fun v10 =>
 doW (Zl H5 81 v3 v9) fun v11 H6 =>
 doQ (ZV H6 v3 81) fun v12 =>
 Q (.tup [v12,v10]) H6
theorem AF(x0 x1 x2:AV)(H:Heap)(Q:AV→Heap→Prop)(h : ∀g,tN g x0 x1 x2 H Q):GoL env Tryz.f31 0 [.code tF] [(0,x0),(1,x1),(2,x2)] H Q:=⟨fun g=>aJ (live:=AU) (cut:=Be) (n:=500) (Eq.mp (by kernel_rfl) (h g))⟩
noncomputable def eS:Code:=(Tryz.f69.body).getD .skip
def jv:Nat→Option (List Nat):=fun i=>none
def jy:Nat→Bool:=fun i=>false
def eV(dep:Nat)(g:Nat→AV)(x0 x1 x2 x3:AV)(H:Heap)(Q:AV→Heap→Prop):Prop :=
 doW (Zj H dep 4 25 x0) fun v1 H1 =>
 doQ (Zb H1 25 v1) fun v2 =>
 doW (ZE dep H1 15 v2 x1) fun v3 H2 =>
 doQ (Zw v3 0) fun v4 =>
 doQ (Zw v3 1) fun v5 =>
 doQ (Zz v5) fun v6 =>
 br (some v6) (
 Q (.tup [(.v (.int .i64 0)),(.v (.int .i64 8))]) H2) (
 doQ (Ze 42 21 0 x2) fun v7 =>
 br (some v7) (
 Q (.tup [(.v (.int .i64 0)),x2]) H2) (
 doW (ZC dep H2 27 x3 v4) fun v8 H3 =>
 doQ (Zw v8 0) fun v9 =>
 doQ (Zw v8 1) fun v10 =>
 Q (.tup [v9,v10]) H3))
theorem jq(dep:Nat)(x0 x1 x2 x3:AV)(H:Heap)(Q:AV→Heap→Prop)(h : ∀g,eV dep g x0 x1 x2 x3 H Q):GoL env Tryz.f69 (dep+1) [.code eS] [(0,x0),(1,x1),(2,x2),(3,x3)] H Q:=⟨fun g=>aJ (live:=jv) (cut:=jy) (n:=500) (Eq.mp (by kernel_rfl) (h g))⟩
noncomputable def ny:Code:=(Tryz.f71.body).getD .skip
def uo:Nat→Option (List Nat):=fun i=>none
def uC:Nat→Bool:=fun i=>false
def nC(dep:Nat)(g:Nat→AV)(x0 x1:AV)(H:Heap)(Q:AV→Heap→Prop):Prop :=
 doQ (Zb H 38 x1) fun v1 =>
 doW (aG env true (limf env) (limt env (dep+1)) H (⟨(dep+1),7,Heap.gen H (dep+1) 7,0⟩:Ref) (some (.fn (.func 72) [] [])) [x0,v1]) fun v2 H1 =>
 Q (.tup [v2,(.v (.int .i64 0))]) H1
theorem tS(dep:Nat)(x0 x1:AV)(H:Heap)(Q:AV→Heap→Prop)(h : ∀g,nC dep g x0 x1 H Q):GoL env Tryz.f71 (dep+1) [.code ny] [(0,x0),(1,x1)] H Q:=⟨fun g=>aJ (live:=uo) (cut:=uC) (n:=500) (Eq.mp (by kernel_rfl) (h g))⟩
noncomputable def ff:Code:=(Tryz.f72.body).getD .skip
def jI:Nat→Option (List Nat):=fun i=>none
def jN:Nat→Bool:=fun i=>false
def bJ(dep:Nat)(g:Nat→AV)(x0 x1:AV)(H:Heap)(Q:AV→Heap→Prop):Prop :=
 doW (Zj H dep 3 38 x1) fun v1 H1 =>
 doQ (ZQ x0) fun v2 =>
 doQ (Zd 129 v2 5) fun v3 =>
 doQ (Zb H1 41 v3) fun v4 =>
 doQ (Zb H1 38 v1) fun v5 =>
 doW (aG env false (limf env) (limt env (dep+1)) H1 (⟨(dep+1),13,Heap.gen H1 (dep+1) 13,0⟩:Ref) (some (.fn (.func 137) [] [])) [v4,v5]) fun v6 H2 =>
 doQ (Ze 42 14 0 v6) fun v7 =>
 br (some v7) (
 Q v6 H2) (
 doQ (ZQ x0) fun v8 =>
 doQ (Zd 129 v8 0) fun v9 =>
 doQ (Zb H2 25 v9) fun v10 =>
 doQ (Zd 38 v1 1) fun v11 =>
 doQ (Zd 31 v11 0) fun v12 =>
 doQ (Zb H2 29 v12) fun v13 =>
 doW (Z1 dep H2 25 v10 v13) fun v14 H3 =>
 doQ (Zw v14 0) fun v15 =>
 doQ (Zw v14 1) fun v16 =>
 doW (Zn H3 dep 6 81) fun v17 H4 =>
 doW (Zl H4 81 v17 v15) fun v18 H5 =>
 doQ (Zd 38 v1 0) fun v19 =>
 doQ (Zb H5 5 v19) fun v20 =>
 doQ (ZL 5 29 v20) fun v21 =>
 gQ v21 true (ZI x0) fun v22 =>
 gQ v21 true (ZQ v22) fun v23 =>
 gQ v21 true (Zd 129 v23 4) fun v24 =>
 gQ v21 true (Zb H5 127 v24) fun v25 =>
 gQ v21 true (Zd 38 v1 1) fun v26 =>
 gQ v21 true (Zd 31 v26 0) fun v27 =>
 gQ v21 true (Zb H5 29 v27) fun v28 =>
 gQ v21 true (ZH H5 127 v25 v28) fun v29 =>
 gQ v21 true (nO env.P 81 (some v29) 3) fun v30 =>
 gQ v21 true (Zd 38 v1 3) fun v31 =>
 gQ v21 true (Zd 35 v31 1) fun v32 =>
 gQ v21 true (Zb H5 3 v32) fun v33 =>
 gQ v21 true (ZF 3 40 43 v30 v33) fun v34 =>
 gQ v21 true (Zd 81 v17 3) fun v35 =>
 gQ v21 true (Zb H5 3 v35) fun v36 =>
 gQ v21 true (Yf 3 44 46 v34 v36) fun v37 =>
 doQ (Zf v21 v37) fun v38 =>
 br (some v38) (
 Q (.v (.int .i64 9)) H5) (
 Q (.v (.int .i64 0)) H5))
theorem jE(dep:Nat)(x0 x1:AV)(H:Heap)(Q:AV→Heap→Prop)(h : ∀g,bJ dep g x0 x1 H Q):GoL env Tryz.f72 (dep+1) [.code ff] [(0,x0),(1,x1)] H Q:=⟨fun g=>aJ (live:=jI) (cut:=jN) (n:=500) (Eq.mp (by kernel_rfl) (h g))⟩
noncomputable def lI:Code:=(Tryz.f80.body).getD .skip
def qj:Nat→Option (List Nat):=fun i=>none
def qq:Nat→Bool:=fun i=>false
def dc(g:Nat→AV)(x0 x1:AV)(H:Heap)(Q:AV→Heap→Prop):Prop :=
 doW (Zc H 2 62 x0) fun v1 H1 =>
 doW (Zc H1 3 62 x1) fun v2 H2 =>
 doQ (Zd 62 v1 0) fun v3 =>
 doQ (Zb H2 5 v3) fun v4 =>
 doQ (Zd 62 v2 0) fun v5 =>
 doQ (Zb H2 5 v5) fun v6 =>
 doQ (Zm 5 6 8 v4 v6) fun v7 =>
 gQ v7 true (Zd 62 v1 1) fun v8 =>
 gQ v7 true (Zb H2 3 v8) fun v9 =>
 gQ v7 true (Zd 62 v2 1) fun v10 =>
 gQ v7 true (Zb H2 3 v10) fun v11 =>
 gQ v7 true (Zm 3 12 14 v9 v11) fun v12 =>
 doQ (Zf v7 v12) fun v13 =>
 gQ v13 true (Zd 62 v1 2) fun v14 =>
 gQ v13 true (Zb H2 38 v14) fun v15 =>
 gQ v13 true (Zd 62 v2 2) fun v16 =>
 gQ v13 true (Zb H2 38 v16) fun v17 =>
 gW v13 true H2 (Za true H2 22 62 [v15,v17]) fun v18 H3 =>
 doQ (Zf v13 v18) fun v19 =>
 gQ v19 true (Zd 62 v1 3) fun v20 =>
 gQ v19 true (Zb H3 42 v20) fun v21 =>
 gQ v19 true (Zd 62 v2 3) fun v22 =>
 gQ v19 true (Zb H3 42 v22) fun v23 =>
 gQ v19 true (Zm 42 26 28 v21 v23) fun v24 =>
 doQ (Zf v19 v24) fun v25 =>
 gQ v25 true (Zd 62 v1 4) fun v26 =>
 gQ v25 true (Zb H3 60 v26) fun v27 =>
 gQ v25 true (Zd 62 v2 4) fun v28 =>
 gQ v25 true (Zb H3 60 v28) fun v29 =>
 gQ v25 true (Zm 60 33 35 v27 v29) fun v30 =>
 doQ (Zf v25 v30) fun v31 =>
 Q v31 H3
theorem p4(x0 x1:AV)(H:Heap)(Q:AV→Heap→Prop)(h : ∀g,dc g x0 x1 H Q):GoL env Tryz.f80 0 [.code lI] [(0,x0),(1,x1)] H Q:=⟨fun g=>aJ (live:=qj) (cut:=qq) (n:=500) (Eq.mp (by kernel_rfl) (h g))⟩
noncomputable def mF:Code:=(Tryz.f81.body).getD .skip
def rB:Nat→Option (List Nat):=fun i=>none
def rI:Nat→Bool:=fun i=>false
def mG(dep:Nat)(g:Nat→AV)(x0 x1 x2 x3:AV)(H:Heap)(Q:AV→Heap→Prop):Prop :=
 doW (Zj H dep 4 25 x0) fun v1 H1 =>
 doQ (Zb H1 25 v1) fun v2 =>
 doW (ZE dep H1 15 v2 x1) fun v3 H2 =>
 doQ (Zw v3 0) fun v4 =>
 doQ (Zw v3 1) fun v5 =>
 doQ (Zz v5) fun v6 =>
 br (some v6) (
 Q (.tup [(.v (.bool false)),(.v (.int .i64 8))]) H2) (
 doQ (Ze 42 21 0 x2) fun v7 =>
 br (some v7) (
 Q (.tup [(.v (.bool false)),x2]) H2) (
 doW (ZC dep H2 27 x3 v4) fun v8 H3 =>
 doQ (Zw v8 0) fun v9 =>
 doQ (Zw v8 1) fun v10 =>
 Q (.tup [v9,v10]) H3))
theorem q9(dep:Nat)(x0 x1 x2 x3:AV)(H:Heap)(Q:AV→Heap→Prop)(h : ∀g,mG dep g x0 x1 x2 x3 H Q):GoL env Tryz.f81 (dep+1) [.code mF] [(0,x0),(1,x1),(2,x2),(3,x3)] H Q:=⟨fun g=>aJ (live:=rB) (cut:=rI) (n:=500) (Eq.mp (by kernel_rfl) (h g))⟩
noncomputable def qR:Code:=(Tryz.f83.body).getD .skip
def ya:Nat→Option (List Nat):=fun i=>none
def yj:Nat→Bool:=fun i=>false
def jV(dep:Nat)(g:Nat→AV)(x0 x1:AV)(H:Heap)(Q:AV→Heap→Prop):Prop :=
 doW (aG env false (limf env) (limt env (dep+1)) H (⟨(dep+1),5,Heap.gen H (dep+1) 5,0⟩:Ref) (some (.fn (.func 84) [] [])) []) fun v1 H1 =>
 doQ (Zd 62 x1 0) fun v2 =>
 doQ (Zb H1 5 v2) fun v3 =>
 doQ (ZH H1 151 v1 v3) fun v4 =>
 doQ (nO env.P 150 (some v4) 0) fun v5 =>
 doQ (Zb H1 62 x1) fun v6 =>
 doW (ZK dep H1 12 v5 x0 v6) fun v7 H2 =>
 Q (.tup [v7,(.v (.int .i64 0))]) H2
theorem xS(dep:Nat)(x0 x1:AV)(H:Heap)(Q:AV→Heap→Prop)(h : ∀g,jV dep g x0 x1 H Q):GoL env Tryz.f83 (dep+1) [.code qR] [(0,x0),(1,x1)] H Q:=⟨fun g=>aJ (live:=ya) (cut:=yj) (n:=500) (Eq.mp (by kernel_rfl) (h g))⟩
noncomputable def eG:Code:=(Tryz.f87.body).getD .skip
def jc:Nat→Option (List Nat):=fun i=>none
def jg:Nat→Bool:=fun i=>false
def eH(dep:Nat)(g:Nat→AV)(x0 x1 x2 x3:AV)(H:Heap)(Q:AV→Heap→Prop):Prop :=
 doW (Zj H dep 4 25 x0) fun v1 H1 =>
 doW (Zn H1 dep 8 25) fun v2 H2 =>
 doQ (Zb H2 25 v1) fun v3 =>
 doW (ZE dep H2 15 v3 x1) fun v4 H3 =>
 doQ (Zw v4 0) fun v5 =>
 doQ (Zw v4 1) fun v6 =>
 doQ (Zz v6) fun v7 =>
 br (some v7) (
 doQ (Zb H3 25 v2) fun v8 =>
 doW (Zl H3 25 v2 v8) fun v9 H4 =>
 doQ (ZV H4 v2 25) fun v10 =>
 Q (.tup [v10,(.v (.int .i64 8))]) H4) (
 doQ (Ze 42 21 0 x2) fun v8 =>
 br (some v8) (
 doQ (Zb H3 25 v2) fun v9 =>
 doW (Zl H3 25 v2 v9) fun v10 H4 =>
 doQ (ZV H4 v2 25) fun v11 =>
 Q (.tup [v11,x2]) H4) (
 doW (ZC dep H3 27 x3 v5) fun v9 H4 =>
 doQ (Zw v9 0) fun v10 =>
 doQ (Zw v9 1) fun v11 =>
 doW (Zl H4 25 v2 v10) fun v12 H5 =>
 doQ (ZV H5 v2 25) fun v13 =>
 Q (.tup [v13,v11]) H5))
theorem ja(dep:Nat)(x0 x1 x2 x3:AV)(H:Heap)(Q:AV→Heap→Prop)(h : ∀g,eH dep g x0 x1 x2 x3 H Q):GoL env Tryz.f87 (dep+1) [.code eG] [(0,x0),(1,x1),(2,x2),(3,x3)] H Q:=⟨fun g=>aJ (live:=jc) (cut:=jg) (n:=500) (Eq.mp (by kernel_rfl) (h g))⟩
noncomputable def n7:Code:=(Tryz.f88.body).getD .skip
def u6:Nat→Option (List Nat):=fun i=>none
def vk:Nat→Bool:=fun i=>false
def oa(dep:Nat)(g:Nat→AV)(x0:AV)(H:Heap)(Q:AV→Heap→Prop):Prop :=
 doW (Zn H dep 2 25) fun v1 H1 =>
 doQ (ZQ x0) fun v2 =>
 doQ (Zd 129 v2 1) fun v3 =>
 doQ (Zb H1 25 v3) fun v4 =>
 doW (Zl H1 25 v1 v4) fun v5 H2 =>
 doQ (ZV H2 v1 25) fun v6 =>
 Q (.tup [v6,(.v (.int .i64 0))]) H2
theorem uI(dep:Nat)(x0:AV)(H:Heap)(Q:AV→Heap→Prop)(h : ∀g,oa dep g x0 H Q):GoL env Tryz.f88 (dep+1) [.code n7] [(0,x0)] H Q:=⟨fun g=>aJ (live:=u6) (cut:=vk) (n:=500) (Eq.mp (by kernel_rfl) (h g))⟩
noncomputable def eB:Code:=(Tryz.f90.body).getD .skip
def iP:Nat→Option (List Nat):=fun i=>none
def iU:Nat→Bool:=fun i=>false
def eE(dep:Nat)(g:Nat→AV)(x0 x1 x2 x3:AV)(H:Heap)(Q:AV→Heap→Prop):Prop :=
 doW (Zj H dep 4 25 x0) fun v1 H1 =>
 doW (Zn H1 dep 8 73) fun v2 H2 =>
 doQ (Zb H2 25 v1) fun v3 =>
 doW (ZE dep H2 15 v3 x1) fun v4 H3 =>
 doQ (Zw v4 0) fun v5 =>
 doQ (Zw v4 1) fun v6 =>
 doQ (Zz v6) fun v7 =>
 br (some v7) (
 doQ (Zb H3 73 v2) fun v8 =>
 doW (Zl H3 73 v2 v8) fun v9 H4 =>
 doQ (ZV H4 v2 73) fun v10 =>
 Q (.tup [v10,(.v (.int .i64 8))]) H4) (
 doQ (Ze 42 21 0 x2) fun v8 =>
 br (some v8) (
 doQ (Zb H3 73 v2) fun v9 =>
 doW (Zl H3 73 v2 v9) fun v10 H4 =>
 doQ (ZV H4 v2 73) fun v11 =>
 Q (.tup [v11,x2]) H4) (
 doW (ZC dep H3 27 x3 v5) fun v9 H4 =>
 doQ (Zw v9 0) fun v10 =>
 doQ (Zw v9 1) fun v11 =>
 doW (Zl H4 73 v2 v10) fun v12 H5 =>
 doQ (ZV H5 v2 73) fun v13 =>
 Q (.tup [v13,v11]) H5))
theorem iK(dep:Nat)(x0 x1 x2 x3:AV)(H:Heap)(Q:AV→Heap→Prop)(h : ∀g,eE dep g x0 x1 x2 x3 H Q):GoL env Tryz.f90 (dep+1) [.code eB] [(0,x0),(1,x1),(2,x2),(3,x3)] H Q:=⟨fun g=>aJ (live:=iP) (cut:=iU) (n:=500) (Eq.mp (by kernel_rfl) (h g))⟩
noncomputable def nz:Code:=(Tryz.f92.body).getD .skip
def uq:Nat→Option (List Nat):=fun i=>none
def uD:Nat→Bool:=fun i=>false
def nD(dep:Nat)(g:Nat→AV)(x0 x1:AV)(H:Heap)(Q:AV→Heap→Prop):Prop :=
 doW (Zn H dep 3 73) fun v1 H1 =>
 doQ (ZQ x0) fun v2 =>
 doQ (Zd 129 v2 3) fun v3 =>
 doQ (Zb H1 126 v3) fun v4 =>
 doQ (Zb H1 31 x1) fun v5 =>
 doQ (ZH H1 126 v4 v5) fun v6 =>
 doW (Zl H1 73 v1 v6) fun v7 H2 =>
 doQ (ZV H2 v1 73) fun v8 =>
 Q (.tup [v8,(.v (.int .i64 0))]) H2
theorem tT(dep:Nat)(x0 x1:AV)(H:Heap)(Q:AV→Heap→Prop)(h : ∀g,nD dep g x0 x1 H Q):GoL env Tryz.f92 (dep+1) [.code nz] [(0,x0),(1,x1)] H Q:=⟨fun g=>aJ (live:=uq) (cut:=uD) (n:=500) (Eq.mp (by kernel_rfl) (h g))⟩
noncomputable def mN:Code:=(Tryz.f95.body).getD .skip
noncomputable def iA:List Item:=(bS 2 400 [.code mN]).getD []
def qK:Nat→Option (List Nat):=fun i=>cond (Nat.beq i 2) (some [13,2,1,11,12]) (none)
def qM:Nat→Bool:=fun i=>false
def qX(dep:Nat)(g:Nat→AV)(x0 x1 x2:AV)(H:Heap)(Q:AV→Heap→Prop):Prop :=
 doQ (ZQ x0) fun v1 =>
 doQ (Zd 129 v1 2) fun v2 =>
 doQ (Zb H 26 v2) fun v3 =>
 doQ (ZA H dep 12 26 v3) fun v4 =>
  GoL env Tryz.f95 (dep+1) iA [(13,(.v (.int .i64 0))),(2,x2),(1,x1),(11,v3),(12,v4)] H Q
theorem xT(dep:Nat)(x0 x1 x2:AV)(H:Heap)(Q:AV→Heap→Prop)(h : ∀g,qX dep g x0 x1 x2 H Q):GoL env Tryz.f95 (dep+1) [.code mN] [(0,x0),(1,x1),(2,x2)] H Q:=⟨fun g=>aJ (live:=qK) (cut:=qM) (n:=500) (Eq.mp (by kernel_rfl) (h g))⟩
def eI(dep:Nat)(g:Nat→AV)(x13 x2 x1 x11 x12:AV)(H:Heap)(Q:AV→Heap→Prop):Prop :=
 doQ (Zp 3 13 12 x13 x12) fun v1 =>
 br (some v1) (
 doQ (Zu H 26 x11 x13) fun v2 =>
 doQ (Zb H 62 v2) fun v3 =>
 doW (Zn H dep 7 62) fun v4 H1 =>
 doW (Zl H1 62 v4 v3) fun v5 H2 =>
 doQ (Zd 62 v4 0) fun v6 =>
 doQ (Zb H2 5 v6) fun v7 =>
 doQ (qBin env.P .eql 5 (Operand.tmp 18) (.const (.int .u8 2)) (some v7) (some (a8 2))) fun v8 =>
 gQ v8 true (Zd 62 v4 2) fun v9 =>
 gQ v8 true (Zd 38 v9 1) fun v10 =>
 gQ v8 true (Zb H2 31 v10) fun v11 =>
 gQ v8 true (Zb H2 31 x1) fun v12 =>
 gQ v8 true (Zm 31 23 24 v11 v12) fun v13 =>
 doQ (Zf v8 v13) fun v14 =>
 gQ v14 true (Zd 62 v4 2) fun v15 =>
 gQ v14 true (Zd 38 v15 2) fun v16 =>
 gQ v14 true (Zb H2 3 v16) fun v17 =>
 gQ v14 true (Zb H2 3 x2) fun v18 =>
 gQ v14 true (Zm 3 30 31 v17 v18) fun v19 =>
 doQ (Zf v14 v19) fun v20 =>
 br (some v20) (
 doQ (Zd 62 v4 3) fun v21 =>
 doQ (Zb H2 42 v21) fun v22 =>
 Q (.tup [v22,(.v (.int .i64 0))]) H2) (
 doQ (Zh 3 13 1 x13) fun v21 =>
  GoL env Tryz.f95 (dep+1) iA [(13,v21),(2,x2),(1,x1),(11,x11),(12,x12)] H2 Q)) (
 Q (.tup [(.v (.int .i64 0)),(.v (.int .i64 6))]) H)
theorem fJ(dep:Nat)(x13 x2 x1 x11 x12:AV)(H:Heap)(Q:AV→Heap→Prop)(h : ∀g,eI dep g x13 x2 x1 x11 x12 H Q):GoL env Tryz.f95 (dep+1) iA [(13,x13),(2,x2),(1,x1),(11,x11),(12,x12)] H Q:=dk fun g=>aJ (live:=qK) (cut:=qM) (n:=500) (Eq.mp (by kernel_rfl) (h g))
noncomputable def eR:Code:=(Tryz.f97.body).getD .skip
def ju:Nat→Option (List Nat):=fun i=>none
def jx:Nat→Bool:=fun i=>false
def eU(dep:Nat)(g:Nat→AV)(x0 x1 x2 x3:AV)(H:Heap)(Q:AV→Heap→Prop):Prop :=
 doW (Zj H dep 4 25 x0) fun v1 H1 =>
 doW (Zn H1 dep 8 81) fun v2 H2 =>
 doQ (Zb H2 25 v1) fun v3 =>
 doW (ZE dep H2 15 v3 x1) fun v4 H3 =>
 doQ (Zw v4 0) fun v5 =>
 doQ (Zw v4 1) fun v6 =>
 doQ (Zz v6) fun v7 =>
 br (some v7) (
 doQ (Zb H3 81 v2) fun v8 =>
 doW (Zl H3 81 v2 v8) fun v9 H4 =>
 doQ (ZV H4 v2 81) fun v10 =>
 Q (.tup [v10,(.v (.int .i64 8))]) H4) (
 doQ (Ze 42 21 0 x2) fun v8 =>
 br (some v8) (
 doQ (Zb H3 81 v2) fun v9 =>
 doW (Zl H3 81 v2 v9) fun v10 H4 =>
 doQ (ZV H4 v2 81) fun v11 =>
 Q (.tup [v11,x2]) H4) (
 doW (ZC dep H3 27 x3 v5) fun v9 H4 =>
 doQ (Zw v9 0) fun v10 =>
 doQ (Zw v9 1) fun v11 =>
 doW (Zl H4 81 v2 v10) fun v12 H5 =>
 doQ (ZV H5 v2 81) fun v13 =>
 Q (.tup [v13,v11]) H5))
theorem jo(dep:Nat)(x0 x1 x2 x3:AV)(H:Heap)(Q:AV→Heap→Prop)(h : ∀g,eU dep g x0 x1 x2 x3 H Q):GoL env Tryz.f97 (dep+1) [.code eR] [(0,x0),(1,x1),(2,x2),(3,x3)] H Q:=⟨fun g=>aJ (live:=ju) (cut:=jx) (n:=500) (Eq.mp (by kernel_rfl) (h g))⟩
noncomputable def qP:Code:=(Tryz.f98.body).getD .skip
def xY:Nat→Option (List Nat):=fun i=>none
def yh:Nat→Bool:=fun i=>false
def qV(dep:Nat)(g:Nat→AV)(x0 x1:AV)(H:Heap)(Q:AV→Heap→Prop):Prop :=
 doW (Zn H dep 3 81) fun v1 H1 =>
 doQ (ZQ x0) fun v2 =>
 doQ (Zd 129 v2 4) fun v3 =>
 doQ (Zb H1 127 v3) fun v4 =>
 doQ (Zb H1 29 x1) fun v5 =>
 doQ (ZH H1 127 v4 v5) fun v6 =>
 doW (Zn H1 dep 5 81) fun v7 H2 =>
 doW (Zl H2 81 v7 v6) fun v8 H3 =>
 doQ (Zb H3 29 x1) fun v9 =>
 doQ (Zd 81 v7 0) fun v10 =>
 doW (Zl H3 29 v10 v9) fun v11 H4 =>
 doQ (Zb H4 81 v7) fun v12 =>
 doW (Zl H4 81 v1 v12) fun v13 H5 =>
 doQ (ZV H5 v1 81) fun v14 =>
 Q (.tup [v14,(.v (.int .i64 0))]) H5
theorem xQ(dep:Nat)(x0 x1:AV)(H:Heap)(Q:AV→Heap→Prop)(h : ∀g,qV dep g x0 x1 H Q):GoL env Tryz.f98 (dep+1) [.code qP] [(0,x0),(1,x1)] H Q:=⟨fun g=>aJ (live:=xY) (cut:=yh) (n:=500) (Eq.mp (by kernel_rfl) (h g))⟩
noncomputable def rQ:Code:=(Tryz.f100.body).getD .skip
noncomputable def fY:List Item:=(bS 6 400 [.code rQ]).getD []
def xt:Nat→Option (List Nat):=fun i=>cond (Nat.beq i 6) (some [28,6,7,26,27]) (none)
def xC:Nat→Bool:=fun i=>false
def n9(dep:Nat)(g:Nat→AV)(x0 x1:AV)(H:Heap)(Q:AV→Heap→Prop):Prop :=
 doW (Zj H dep 2 25 x0) fun v1 H1 =>
 doQ (Zb H1 25 v1) fun v2 =>
 doW (aG env true (limf env) (limt env (dep+1)) H1 (⟨(dep+1),11,Heap.gen H1 (dep+1) 11,0⟩:Ref) (some (.fn (.func 102) [] [])) [v2]) fun v3 H2 =>
 doQ (Ze 42 11 0 v3) fun v4 =>
 gQ v4 false (ZI x1) fun v5 =>
 gQ v4 false (ZA H2 dep 15 26 v5) fun v6 =>
 gQ v4 false (Zr 3 15 2048 v6) fun v7 =>
 doQ (Zo v4 v7) fun v8 =>
 br (some v8) (
 Q (.tup [(.v (.pointer none)),(.v (.bool false))]) H2) (
 doQ (Zb H2 25 v1) fun v9 =>
 doQ (Zb H2 25 v1) fun v10 =>
 doW (jT env false (limf env) (limt env (dep+1)) H2 (⟨(dep+1),20,Heap.gen H2 (dep+1) 20,0⟩:Ref) (some (.fn (.func 160) [] [])) [v10]) fun v11 H3 =>
 doW (ZN H3 dep 21) fun v12 H4 =>
 doW (ZN H4 dep 22) fun v13 H5 =>
 doQ (bI env.P 129 (some [(0,v9),(1,v11),(3,v12),(4,v13)])) fun v14 =>
 doW (Zj H5 dep 24 129 v14) fun v15 H6 =>
 doW (aG env true (limf env) (limt env (dep+1)) H6 (⟨(dep+1),25,Heap.gen H6 (dep+1) 25,0⟩:Ref) (some (.fn (.func 84) [] [])) []) fun v16 H7 =>
 doQ (ZA H7 dep 27 26 x1) fun v17 =>
  GoL env Tryz.f100 (dep+1) fY [(28,(.v (.int .i64 0))),(6,v15),(7,v16),(26,x1),(27,v17)] H7 Q)
theorem Dc(dep:Nat)(x0 x1:AV)(H:Heap)(Q:AV→Heap→Prop)(h : ∀g,n9 dep g x0 x1 H Q):GoL env Tryz.f100 (dep+1) [.code rQ] [(0,x0),(1,x1)] H Q:=⟨fun g=>aJ (live:=xt) (cut:=xC) (n:=500) (Eq.mp (by kernel_rfl) (h g))⟩
def mq(dep:Nat)(g:Nat→AV)(x28 x6 x7 x26 x27:AV)(H:Heap)(Q:AV→Heap→Prop):Prop :=
 doQ (Zp 3 28 27 x28 x27) fun v1 =>
 br (some v1) (
 doQ (Zu H 26 x26 x28) fun v2 =>
 doQ (Zb H 62 v2) fun v3 =>
 doW (Zn H dep 9 62) fun v4 H1 =>
 doW (Zl H1 62 v4 v3) fun v5 H2 =>
 doQ (Zb H2 62 v4) fun v6 =>
 doW (aG env true (limf env) (limt env (dep+1)) H2 (⟨(dep+1),33,Heap.gen H2 (dep+1) 33,0⟩:Ref) (some (.fn (.func 82) [] [])) [v6]) fun v7 H3 =>
 doQ (Ze 42 33 0 v7) fun v8 =>
 gQ v8 false (ZI x7) fun v9 =>
 gQ v8 false (Zd 62 v4 0) fun v10 =>
 gQ v8 false (Zb H3 5 v10) fun v11 =>
 gQ v8 false (ZH H3 151 v9 v11) fun v12 =>
 gQ v8 false (nO env.P 150 (some v12) 0) fun v13 =>
 gQ v8 false (ZI x6) fun v14 =>
 gQ v8 false (Zb H3 62 v4) fun v15 =>
 gW v8 false H3 (ZK dep H3 43 v13 v14 v15) fun v16 H4 =>
 gQ v8 false (Zz v16) fun v17 =>
 doQ (Zo v8 v17) fun v18 =>
 br (some v18) (
 Q (.tup [(.v (.pointer none)),(.v (.bool false))]) H4) (
 doQ (Zd 62 v4 0) fun v19 =>
 doQ (Zb H4 5 v19) fun v20 =>
 doQ (ZH H4 151 x7 v20) fun v21 =>
 doQ (nO env.P 150 (some v21) 1) fun v22 =>
 doQ (Zb H4 62 v4) fun v23 =>
 doW (ZK dep H4 53 v22 x6 v23) fun v24 H5 =>
 doQ (ZQ x6) fun v25 =>
 doQ (Zd 129 v25 2) fun v26 =>
 doQ (Zb H5 26 v26) fun v27 =>
 doQ (Zb H5 62 v4) fun v28 =>
 doW (aG env false (limf env) (limt env (dep+1)) H5 (⟨(dep+1),60,Heap.gen H5 (dep+1) 60,0⟩:Ref) (some (.fn (.func 161) [] [])) [v28]) fun v29 H6 =>
 doW (Z7 H6 dep 61 26 1 0 v29) fun v30 H7 =>
 doW (Z8 H7 dep 62 26 26 v27 v30) fun v31 H8 =>
 doQ (ZQ x6) fun v32 =>
 doQ (Zd 129 v32 2) fun v33 =>
 doW (Zl H8 26 v33 v31) fun v34 H9 =>
 doQ (Zh 3 28 1 x28) fun v35 =>
  GoL env Tryz.f100 (dep+1) fY [(28,v35),(6,x6),(7,x7),(26,x26),(27,x27)] H9 Q)) (
 Q (.tup [x6,(.v (.bool true))]) H)
theorem og(dep:Nat)(x28 x6 x7 x26 x27:AV)(H:Heap)(Q:AV→Heap→Prop)(h : ∀g,mq dep g x28 x6 x7 x26 x27 H Q):GoL env Tryz.f100 (dep+1) fY [(28,x28),(6,x6),(7,x7),(26,x26),(27,x27)] H Q:=dk fun g=>aJ (live:=xt) (cut:=xC) (n:=500) (Eq.mp (by kernel_rfl) (h g))
noncomputable def pz:Code:=(Tryz.f145.body).getD .skip
def wG:Nat→Option (List Nat):=fun i=>none
def wX:Nat→Bool:=fun i=>false
def pP(dep:Nat)(g:Nat→AV)(x0 x1:AV)(H:Heap)(Q:AV→Heap→Prop):Prop :=
 doW (Zj H dep 3 62 x1) fun v1 H1 =>
 doQ (Zd 62 v1 2) fun v2 =>
 doQ (Zd 38 v2 1) fun v3 =>
 doQ (Zd 31 v3 0) fun v4 =>
 doQ (Zb H1 29 v4) fun v5 =>
 doW (Z2 dep H1 13 x0 v5) fun v6 H2 =>
 doQ (Zw v6 0) fun v7 =>
 doQ (Zw v6 1) fun v8 =>
 doQ (ZQ x0) fun v9 =>
 doQ (Zd 129 v9 3) fun v10 =>
 doQ (Zb H2 126 v10) fun v11 =>
 doQ (Zd 62 v1 2) fun v12 =>
 doQ (Zd 38 v12 1) fun v13 =>
 doQ (Zb H2 31 v13) fun v14 =>
 doQ (ZH H2 126 v11 v14) fun v15 =>
 doQ (nO env.P 73 (some v15) 0) fun v16 =>
 doQ (Zz v16) fun v17 =>
 gQ v17 true (ZI x0) fun v18 =>
 gQ v17 true (Zd 62 v1 1) fun v19 =>
 gQ v17 true (Zb H2 3 v19) fun v20 =>
 gQ v17 true (Zd 62 v1 2) fun v21 =>
 gQ v17 true (Zd 38 v21 1) fun v22 =>
 gQ v17 true (Zd 31 v22 0) fun v23 =>
 gQ v17 true (Zb H2 29 v23) fun v24 =>
 gW v17 true H2 (aG env true (limf env) (limt env (dep+1)) H2 (⟨(dep+1),34,Heap.gen H2 (dep+1) 34,0⟩:Ref) (some (.fn (.func 147) [] [])) [v18,v20,v24]) fun v25 H3 =>
 doQ (Zf v17 v25) fun v26 =>
 gQ v26 true (ZI v7) fun v27 =>
 doQ (Zf v26 v27) fun v28 =>
 Q v28 H3
theorem vU(dep:Nat)(x0 x1:AV)(H:Heap)(Q:AV→Heap→Prop)(h : ∀g,pP dep g x0 x1 H Q):GoL env Tryz.f145 (dep+1) [.code pz] [(0,x0),(1,x1)] H Q:=⟨fun g=>aJ (live:=wG) (cut:=wX) (n:=500) (Eq.mp (by kernel_rfl) (h g))⟩
noncomputable def fQ:Code:=(Tryz.f146.body).getD .skip
def kX:Nat→Option (List Nat):=fun i=>none
def lE:Nat→Bool:=fun i=>false
def fV(dep:Nat)(g:Nat→AV)(x0 x1:AV)(H:Heap)(Q:AV→Heap→Prop):Prop :=
 doW (Zj H dep 3 29 x1) fun v1 H1 =>
 doQ (ZQ x0) fun v2 =>
 doQ (Zd 129 v2 0) fun v3 =>
 doQ (Zb H1 25 v3) fun v4 =>
 doQ (Zb H1 29 v1) fun v5 =>
 doW (Z1 dep H1 15 v4 v5) fun v6 H2 =>
 doQ (Zw v6 0) fun v7 =>
 doQ (Zw v6 1) fun v8 =>
 doW (Zn H2 dep 6 81) fun v9 H3 =>
 doW (Zl H3 81 v9 v7) fun v10 H4 =>
 doQ (ZQ x0) fun v11 =>
 doQ (Zd 129 v11 4) fun v12 =>
 doQ (Zb H4 127 v12) fun v13 =>
 doQ (Zb H4 29 v1) fun v14 =>
 doQ (ZH H4 127 v13 v14) fun v15 =>
 doW (Zn H4 dep 8 81) fun v16 H5 =>
 doW (Zl H5 81 v16 v15) fun v17 H6 =>
 doQ (Zd 81 v16 1) fun v18 =>
 doQ (Zb H6 3 v18) fun v19 =>
 doQ (Zd 81 v9 1) fun v20 =>
 doQ (Zb H6 3 v20) fun v21 =>
 doQ (Zp 3 25 27 v19 v21) fun v22 =>
 doQ (Zd 81 v16 2) fun v23 =>
 doQ (Zb H6 3 v23) fun v24 =>
 doQ (Zd 81 v9 2) fun v25 =>
 doQ (Zb H6 3 v25) fun v26 =>
 doQ (Zp 3 30 32 v24 v26) fun v27 =>
 Q (.tup [v22,v27]) H6
theorem kO(dep:Nat)(x0 x1:AV)(H:Heap)(Q:AV→Heap→Prop)(h : ∀g,fV dep g x0 x1 H Q):GoL env Tryz.f146 (dep+1) [.code fQ] [(0,x0),(1,x1)] H Q:=⟨fun g=>aJ (live:=kX) (cut:=lE) (n:=500) (Eq.mp (by kernel_rfl) (h g))⟩
noncomputable def gj:Code:=(Tryz.f147.body).getD .skip
def lR:Nat→Option (List Nat):=fun i=>none
def lT:Nat→Bool:=fun i=>false
def dL(dep:Nat)(g:Nat→AV)(x0 x1 x2:AV)(H:Heap)(Q:AV→Heap→Prop):Prop :=
 doW (Zj H dep 5 29 x2) fun v1 H1 =>
 doQ (ZQ x0) fun v2 =>
 doQ (Zd 129 v2 1) fun v3 =>
 doQ (Zb H1 25 v3) fun v4 =>
 doQ (Zb H1 29 v1) fun v5 =>
 doW (aG env false (limf env) (limt env (dep+1)) H1 (⟨(dep+1),16,Heap.gen H1 (dep+1) 16,0⟩:Ref) (some (.fn (.func 174) [] [])) [v4,x1,v5]) fun v6 H2 =>
 doQ (Zw v6 0) fun v7 =>
 doQ (Zw v6 1) fun v8 =>
 doQ (Zi 42 19 0 v8) fun v9 =>
 gQ v9 true (ZI v7) fun v10 =>
 doQ (Zf v9 v10) fun v11 =>
 Q v11 H2
theorem lO(dep:Nat)(x0 x1 x2:AV)(H:Heap)(Q:AV→Heap→Prop)(h : ∀g,dL dep g x0 x1 x2 H Q):GoL env Tryz.f147 (dep+1) [.code gj] [(0,x0),(1,x1),(2,x2)] H Q:=⟨fun g=>aJ (live:=lR) (cut:=lT) (n:=500) (Eq.mp (by kernel_rfl) (h g))⟩
noncomputable def py:Code:=(Tryz.f148.body).getD .skip
def wF:Nat→Option (List Nat):=fun i=>none
def wW:Nat→Bool:=fun i=>false
def pO(dep:Nat)(g:Nat→AV)(x0 x1:AV)(H:Heap)(Q:AV→Heap→Prop):Prop :=
 doW (Zj H dep 3 62 x1) fun v1 H1 =>
 doQ (ZQ x0) fun v2 =>
 doQ (Zd 129 v2 3) fun v3 =>
 doQ (Zb H1 126 v3) fun v4 =>
 doQ (Zd 62 v1 2) fun v5 =>
 doQ (Zd 38 v5 1) fun v6 =>
 doQ (Zb H1 31 v6) fun v7 =>
 doQ (Zd 62 v1 1) fun v8 =>
 doQ (Zb H1 3 v8) fun v9 =>
 doQ (bI env.P 73 (some [(0,(.v (.bool true))),(1,v9)])) fun v10 =>
 doW (cR env.P H1 126 (some v4) (some v7) (some v10)) fun v11 H2 =>
 doQ (ZQ x0) fun v12 =>
 doQ (Zd 129 v12 4) fun v13 =>
 doQ (Zb H2 127 v13) fun v14 =>
 doQ (Zd 62 v1 2) fun v15 =>
 doQ (Zd 38 v15 1) fun v16 =>
 doQ (Zd 31 v16 0) fun v17 =>
 doQ (Zb H2 29 v17) fun v18 =>
 doQ (ZH H2 127 v14 v18) fun v19 =>
 doW (Zn H2 dep 4 81) fun v20 H3 =>
 doW (Zl H3 81 v20 v19) fun v21 H4 =>
 doQ (Zd 81 v20 1) fun v22 =>
 doQ (Zb H4 3 v22) fun v23 =>
 doQ (Zh 3 25 1 v23) fun v24 =>
 doQ (Zd 81 v20 1) fun v25 =>
 doW (Zl H4 3 v25 v24) fun v26 H5 =>
 doQ (ZQ x0) fun v27 =>
 doQ (Zd 129 v27 4) fun v28 =>
 doQ (Zb H5 127 v28) fun v29 =>
 doQ (Zd 62 v1 2) fun v30 =>
 doQ (Zd 38 v30 1) fun v31 =>
 doQ (Zd 31 v31 0) fun v32 =>
 doQ (Zb H5 29 v32) fun v33 =>
 doQ (Zb H5 81 v20) fun v34 =>
 doW (cR env.P H5 127 (some v29) (some v33) (some v34)) fun v35 H6 =>
 Q (.v (.tuple #[])) H6
theorem vT(dep:Nat)(x0 x1:AV)(H:Heap)(Q:AV→Heap→Prop)(h : ∀g,pO dep g x0 x1 H Q):GoL env Tryz.f148 (dep+1) [.code py] [(0,x0),(1,x1)] H Q:=⟨fun g=>aJ (live:=wF) (cut:=wW) (n:=500) (Eq.mp (by kernel_rfl) (h g))⟩
noncomputable def pw:Code:=(Tryz.f149.body).getD .skip
def wE:Nat→Option (List Nat):=fun i=>none
def wV:Nat→Bool:=fun i=>false
def pN(dep:Nat)(g:Nat→AV)(x0 x1:AV)(H:Heap)(Q:AV→Heap→Prop):Prop :=
 doW (Zj H dep 3 62 x1) fun v1 H1 =>
 doQ (ZQ x0) fun v2 =>
 doQ (Zd 129 v2 3) fun v3 =>
 doQ (Zb H1 126 v3) fun v4 =>
 doQ (Zd 62 v1 2) fun v5 =>
 doQ (Zd 38 v5 1) fun v6 =>
 doQ (Zb H1 31 v6) fun v7 =>
 doQ (ZH H1 126 v4 v7) fun v8 =>
 doW (Zn H1 dep 5 73) fun v9 H2 =>
 doW (Zl H2 73 v9 v8) fun v10 H3 =>
 doQ (Zd 62 v1 2) fun v11 =>
 doQ (Zd 38 v11 1) fun v12 =>
 doQ (Zd 31 v12 0) fun v13 =>
 doQ (Zb H3 29 v13) fun v14 =>
 doW (Z2 dep H3 22 x0 v14) fun v15 H4 =>
 doQ (Zw v15 0) fun v16 =>
 doQ (Zw v15 1) fun v17 =>
 doQ (Zd 73 v9 0) fun v18 =>
 doQ (Zb H4 4 v18) fun v19 =>
 gQ v19 true (ZI x0) fun v20 =>
 gQ v19 true (Zd 73 v9 1) fun v21 =>
 gQ v19 true (Zb H4 3 v21) fun v22 =>
 gQ v19 true (Zd 62 v1 2) fun v23 =>
 gQ v19 true (Zd 38 v23 1) fun v24 =>
 gQ v19 true (Zd 31 v24 0) fun v25 =>
 gQ v19 true (Zb H4 29 v25) fun v26 =>
 gW v19 true H4 (jT env true (limf env) (limt env (dep+1)) H4 (⟨(dep+1),35,Heap.gen H4 (dep+1) 35,0⟩:Ref) (some (.fn (.func 147) [] [])) [v20,v22,v26]) fun v27 H5 =>
 doQ (Zf v19 v27) fun v28 =>
 gQ v28 true (Zd 62 v1 2) fun v29 =>
 gQ v28 true (Zd 38 v29 2) fun v30 =>
 gQ v28 true (Zb H5 3 v30) fun v31 =>
 gQ v28 true (Zd 73 v9 2) fun v32 =>
 gQ v28 true (Zb H5 3 v32) fun v33 =>
 gQ v28 true (Zh 3 42 1 v33) fun v34 =>
 gQ v28 true (Zm 3 40 43 v31 v34) fun v35 =>
 doQ (Zf v28 v35) fun v36 =>
 gQ v36 true (ZI v17) fun v37 =>
 doQ (Zf v36 v37) fun v38 =>
 gQ v38 true (Zd 62 v1 3) fun v39 =>
 gQ v38 true (Zb H5 42 v39) fun v40 =>
 gQ v38 true (ZI x0) fun v41 =>
 gQ v38 true (Zd 62 v1 2) fun v42 =>
 gQ v38 true (Zb H5 38 v42) fun v43 =>
 gW v38 true H5 (jT env true (limf env) (limt env (dep+1)) H5 (⟨(dep+1),55,Heap.gen H5 (dep+1) 55,0⟩:Ref) (some (.fn (.func 72) [] [])) [v41,v43]) fun v44 H6 =>
 gQ v38 true (Zm 42 51 55 v40 v44) fun v45 =>
 doQ (Zf v38 v45) fun v46 =>
  jn [(v35,v34)] [] [] H6 ∧
 (Q v46 H6)
theorem vS(dep:Nat)(x0 x1:AV)(H:Heap)(Q:AV→Heap→Prop)(h : ∀g,pN dep g x0 x1 H Q):GoL env Tryz.f149 (dep+1) [.code pw] [(0,x0),(1,x1)] H Q:=⟨fun g=>aJ (live:=wE) (cut:=wV) (n:=500) (Eq.mp (by kernel_rfl) (h g))⟩
noncomputable def mc:Code:=(Tryz.f150.body).getD .skip
def wD:Nat→Option (List Nat):=fun i=>none
def wU:Nat→Bool:=fun i=>false
def fj(dep:Nat)(g:Nat→AV)(x0 x1:AV)(H:Heap)(Q:AV→Heap→Prop):Prop :=
 doW (Zj H dep 3 62 x1) fun v1 H1 =>
 doQ (ZQ x0) fun v2 =>
 doQ (Zd 129 v2 3) fun v3 =>
 doQ (Zb H1 126 v3) fun v4 =>
 doQ (Zd 62 v1 2) fun v5 =>
 doQ (Zd 38 v5 1) fun v6 =>
 doQ (Zb H1 31 v6) fun v7 =>
 doQ (ZH H1 126 v4 v7) fun v8 =>
 doQ (ZQ x0) fun v9 =>
 doQ (Zd 129 v9 4) fun v10 =>
 doQ (Zb H1 127 v10) fun v11 =>
 doQ (Zd 62 v1 2) fun v12 =>
 doQ (Zd 38 v12 1) fun v13 =>
 doQ (Zd 31 v13 0) fun v14 =>
 doQ (Zb H1 29 v14) fun v15 =>
 doQ (ZH H1 127 v11 v15) fun v16 =>
 doW (Zn H1 dep 4 73) fun v17 H2 =>
 doW (Zn H2 dep 5 81) fun v18 H3 =>
 doW (Zl H3 73 v17 v8) fun v19 H4 =>
 doW (Zl H4 81 v18 v16) fun v20 H5 =>
  jn [(v10,v17),(v14,v17),(v11,v17)] [v17,v18] [] H5 ∧
 (doQ (Zd 73 v17 2) fun v21 =>
 doQ (Zb H5 3 v21) fun v22 =>
 doQ (Zh 3 24 1 v22) fun v23 =>
 doQ (Zd 73 v17 2) fun v24 =>
 doW (Zl H5 3 v24 v23) fun v25 H6 =>
 doQ (Zd 81 v18 2) fun v26 =>
 doQ (Zb H6 3 v26) fun v27 =>
 doQ (Zh 3 28 1 v27) fun v28 =>
 doQ (Zd 81 v18 2) fun v29 =>
 doW (Zl H6 3 v29 v28) fun v30 H7 =>
 doQ (Zd 62 v1 3) fun v31 =>
 doQ (Zb H7 42 v31) fun v32 =>
 doQ (Zi 42 32 0 v32) fun v33 =>
 br (some v33) (
 doQ (ZQ x0) fun v34 =>
 doQ (Zd 129 v34 5) fun v35 =>
 doQ (Zb H7 41 v35) fun v36 =>
 doQ (Zd 62 v1 2) fun v37 =>
 doQ (Zb H7 38 v37) fun v38 =>
 doW (aG env false (limf env) (limt env (dep+1)) H7 (⟨(dep+1),41,Heap.gen H7 (dep+1) 41,0⟩:Ref) (some (.fn (.func 108) [] [])) [v38]) fun v39 H8 =>
 doW (Z7 H8 dep 42 41 1 0 v39) fun v40 H9 =>
 doW (Z8 H9 dep 43 41 41 v36 v40) fun v41 H10 =>
 doQ (ZQ x0) fun v42 =>
 doQ (Zd 129 v42 5) fun v43 =>
 doW (Zl H10 41 v43 v41) fun v44 H11 =>
 doQ (Zd 62 v1 2) fun v45 =>
 doQ (Zd 38 v45 0) fun v46 =>
 doQ (Zb H11 5 v46) fun v47 =>
 doQ (ZL 5 48 v47) fun v48 =>
 br (some v48) (
 doQ (Zd 81 v18 3) fun v49 =>
 doQ (Zb H11 3 v49) fun v50 =>
 doQ (Zd 62 v1 2) fun v51 =>
 doQ (Zd 38 v51 3) fun v52 =>
 doQ (Zd 35 v52 1) fun v53 =>
 doQ (Zb H11 3 v53) fun v54 =>
 doQ (ZF 3 51 55 v50 v54) fun v55 =>
 doQ (Zd 81 v18 3) fun v56 =>
 doW (Zl H11 3 v56 v55) fun v57 H12 =>
 doQ (ZQ x0) fun v58 =>
 doQ (Zd 129 v58 3) fun v59 =>
 doQ (Zb H12 126 v59) fun v60 =>
 doQ (Zd 62 v1 2) fun v61 =>
 doQ (Zd 38 v61 1) fun v62 =>
 doQ (Zb H12 31 v62) fun v63 =>
 doQ (ZQ x0) fun v64 =>
 doQ (Zd 129 v64 4) fun v65 =>
 doQ (Zb H12 127 v65) fun v66 =>
 doQ (Zd 62 v1 2) fun v67 =>
 doQ (Zd 38 v67 1) fun v68 =>
 doQ (Zd 31 v68 0) fun v69 =>
 doQ (Zb H12 29 v69) fun v70 =>
 doQ (Zb H12 73 v17) fun v71 =>
 doQ (Zb H12 81 v18) fun v72 =>
 doW (Yj H12 126 v60 v63) fun v73 H13 =>
 doQ (Zw v73 1) fun v74 =>
 doW (Yi H13 v60 v74 v71) fun v75 H14 =>
 doW (Yj H14 127 v66 v70) fun v76 H15 =>
 doQ (Zw v76 1) fun v77 =>
 doW (Yi H15 v66 v77 v72) fun v78 H16 =>
  jn [(v69,v60),(v17,v60),(v18,v60),(v18,v66)] [] [] H16 ∧
 (Q (.v (.tuple #[])) H16)) (
 doQ (ZQ x0) fun v49 =>
 doQ (Zd 129 v49 3) fun v50 =>
 doQ (Zb H11 126 v50) fun v51 =>
 doQ (Zd 62 v1 2) fun v52 =>
 doQ (Zd 38 v52 1) fun v53 =>
 doQ (Zb H11 31 v53) fun v54 =>
 doQ (ZQ x0) fun v55 =>
 doQ (Zd 129 v55 4) fun v56 =>
 doQ (Zb H11 127 v56) fun v57 =>
 doQ (Zd 62 v1 2) fun v58 =>
 doQ (Zd 38 v58 1) fun v59 =>
 doQ (Zd 31 v59 0) fun v60 =>
 doQ (Zb H11 29 v60) fun v61 =>
 doQ (Zb H11 73 v17) fun v62 =>
 doQ (Zb H11 81 v18) fun v63 =>
 doW (Yj H11 126 v51 v54) fun v64 H12 =>
 doQ (Zw v64 1) fun v65 =>
 doW (Yi H12 v51 v65 v62) fun v66 H13 =>
 doW (Yj H13 127 v57 v61) fun v67 H14 =>
 doQ (Zw v67 1) fun v68 =>
 doW (Yi H14 v57 v68 v63) fun v69 H15 =>
  jn [(v60,v51),(v17,v51),(v18,v51),(v18,v57)] [] [] H15 ∧
 (Q (.v (.tuple #[])) H15))) (
 doQ (ZQ x0) fun v34 =>
 doQ (Zd 129 v34 3) fun v35 =>
 doQ (Zb H7 126 v35) fun v36 =>
 doQ (Zd 62 v1 2) fun v37 =>
 doQ (Zd 38 v37 1) fun v38 =>
 doQ (Zb H7 31 v38) fun v39 =>
 doQ (ZQ x0) fun v40 =>
 doQ (Zd 129 v40 4) fun v41 =>
 doQ (Zb H7 127 v41) fun v42 =>
 doQ (Zd 62 v1 2) fun v43 =>
 doQ (Zd 38 v43 1) fun v44 =>
 doQ (Zd 31 v44 0) fun v45 =>
 doQ (Zb H7 29 v45) fun v46 =>
 doQ (Zb H7 73 v17) fun v47 =>
 doQ (Zb H7 81 v18) fun v48 =>
 doW (Yj H7 126 v36 v39) fun v49 H8 =>
 doQ (Zw v49 1) fun v50 =>
 doW (Yi H8 v36 v50 v47) fun v51 H9 =>
 doW (Yj H9 127 v42 v46) fun v52 H10 =>
 doQ (Zw v52 1) fun v53 =>
 doW (Yi H10 v42 v53 v48) fun v54 H11 =>
  jn [(v45,v36),(v17,v36),(v18,v36),(v18,v42)] [] [] H11 ∧
 (Q (.v (.tuple #[])) H11)))
theorem oR(dep:Nat)(x0 x1:AV)(H:Heap)(Q:AV→Heap→Prop)(h : ∀g,fj dep g x0 x1 H Q):GoL env Tryz.f150 (dep+1) [.code mc] [(0,x0),(1,x1)] H Q:=⟨fun g=>aJ (live:=wD) (cut:=wU) (n:=500) (Eq.mp (by kernel_rfl) (h g))⟩
noncomputable def pv:Code:=(Tryz.f151.body).getD .skip
def wC:Nat→Option (List Nat):=fun i=>none
def wT:Nat→Bool:=fun i=>false
def mf(dep:Nat)(g:Nat→AV)(x0 x1:AV)(H:Heap)(Q:AV→Heap→Prop):Prop :=
 doW (Zj H dep 3 62 x1) fun v1 H1 =>
 doQ (ZQ x0) fun v2 =>
 doQ (Zd 129 v2 1) fun v3 =>
 doQ (Zb H1 25 v3) fun v4 =>
 doQ (Zd 62 v1 4) fun v5 =>
 doQ (Zb H1 60 v5) fun v6 =>
 doW (Z0 dep H1 14 v4 v6) fun v7 H2 =>
 doQ (Zw v7 0) fun v8 =>
 doQ (Zw v7 1) fun v9 =>
 doW (Zn H2 dep 5 25) fun v10 H3 =>
 doW (Zl H3 25 v10 v8) fun v11 H4 =>
 doQ (Zi 42 17 0 v9) fun v12 =>
 Q v12 H4
theorem vR(dep:Nat)(x0 x1:AV)(H:Heap)(Q:AV→Heap→Prop)(h : ∀g,mf dep g x0 x1 H Q):GoL env Tryz.f151 (dep+1) [.code pv] [(0,x0),(1,x1)] H Q:=⟨fun g=>aJ (live:=wC) (cut:=wT) (n:=500) (Eq.mp (by kernel_rfl) (h g))⟩
noncomputable def pt:Code:=(Tryz.f153.body).getD .skip
def wB:Nat→Option (List Nat):=fun i=>none
def wS:Nat→Bool:=fun i=>false
def pM(dep:Nat)(g:Nat→AV)(x0 x1:AV)(H:Heap)(Q:AV→Heap→Prop):Prop :=
 doW (Zj H dep 3 62 x1) fun v1 H1 =>
 doQ (ZQ x0) fun v2 =>
 doQ (Zd 129 v2 1) fun v3 =>
 doQ (Zb H1 25 v3) fun v4 =>
 doQ (Zd 62 v1 4) fun v5 =>
 doQ (Zb H1 60 v5) fun v6 =>
 doW (Z0 dep H1 12 v4 v6) fun v7 H2 =>
 doQ (Zw v7 0) fun v8 =>
 doQ (Zw v7 1) fun v9 =>
 doQ (ZQ x0) fun v10 =>
 doQ (Zd 129 v10 1) fun v11 =>
 doW (Zl H2 25 v11 v8) fun v12 H3 =>
 Q (.v (.tuple #[])) H3
theorem vQ(dep:Nat)(x0 x1:AV)(H:Heap)(Q:AV→Heap→Prop)(h : ∀g,pM dep g x0 x1 H Q):GoL env Tryz.f153 (dep+1) [.code pt] [(0,x0),(1,x1)] H Q:=⟨fun g=>aJ (live:=wB) (cut:=wS) (n:=500) (Eq.mp (by kernel_rfl) (h g))⟩
end Go.Proofs.YtmkmimgokagimaaGreat
