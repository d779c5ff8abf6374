/-
  What is to be shown of each function, computed from its code. No statement of a seat is proved here.
-/
import Derived.Test.YtmkmimgokagimaaGreatLeTy
set_option linter.unusedVariables false
set_option maxRecDepth 1000000
namespace Go.Proofs.YtmkmimgokagimaaGreat
open Go.Ab
noncomputable def Dr:Code:=(Tryz.f137.body).getD .skip
def Kr:Nat→Option (List Nat):=fun i=>none
def K8:Nat→Bool:=fun i=>false
def uw(g:Nat→AV)(x0 x1:AV)(H:ad)(Q:AV→ad→Prop):Prop :=
 aL (zac H 3 38 x1) fun v1 H1 =>
 aL (zaa true H1 10 172 [x0]) fun v2 H2 =>
 ak (zaw v2 0) fun v3 =>
 ak (zaw v2 1) fun v4 =>
 ak (zbb v4) fun v5 =>
 br (some v5) (
 Q (.v (.int .i64 8)) H2) (
 ak (zab H2 38 v1) fun v6 =>
 aL (zaa true H2 16 70 [v6]) fun v7 H3 =>
 ak (zae 42 17 0 v7) fun v8 =>
 br (some v8) (
 Q v7 H3) (
 ak (zab H3 38 v1) fun v9 =>
 aL (zaa true H3 22 193 [v3,v9]) fun v10 H4 =>
 Q v10 H4))
theorem Jv(x0 x1:AV)(H:ad)(Q:AV→ad→Prop)(h : ∀g,uw g x0 x1 H Q):b7 env Tryz.f137 0 [.code Dr] [(0,x0),(1,x1)] H Q:=⟨fun g=>bc (live:=Kr) (cut:=K8) (n:=500) (Eq.mp (by kernel_rfl) (h g))⟩
noncomputable def za:Code:=(Tryz.f172.body).getD .skip
noncomputable def my:List Item:=(cE 3 400 [.code za]).getD []
noncomputable def pb:List Item:=(cE 10 400 [.code za]).getD []
def CC:Nat→Option (List Nat):=fun i=>cond (Nat.beq i 3) (some [4,14,12,13]) (cond (Nat.beq i 10) (some [44,4,42,12,13,14,43]) (none))
def CT:Nat→Bool:=fun i=>false
def HW(dep:Nat)(g:Nat→AV)(x0:AV)(H:ad)(Q:AV→ad→Prop):Prop :=
 aL (zbn H dep 9) fun v1 H1 =>
 ak (zcp 266 1 v1) fun v2 =>
 aL (zaj H1 dep 11 266 v2) fun v3 H2 =>
 ak (zba H2 dep 13 41 x0) fun v4 =>
  b7 env Tryz.f172 (dep+1) my [(4,v3),(14,(.v (.int .i64 0))),(12,x0),(13,v4)] H2 Q
theorem NU(dep:Nat)(x0:AV)(H:ad)(Q:AV→ad→Prop)(h : ∀g,HW dep g x0 H Q):b7 env Tryz.f172 (dep+1) [.code za] [(0,x0)] H Q:=⟨fun g=>bc (live:=CC) (cut:=CT) (n:=500) (Eq.mp (by kernel_rfl) (h g))⟩
def uv(dep:Nat)(g:Nat→AV)(x4 x14 x12 x13:AV)(H:ad)(Q:AV→ad→Prop):Prop :=
 ak (zap 3 14 13 x14 x13) fun v1 =>
 br (some v1) (
 ak (zau H 41 x12 x14) fun v2 =>
 ak (zab H 38 v2) fun v3 =>
 aL (zao H dep 6 38) fun v4 H1 =>
 aL (zal H1 38 v4 v3) fun v5 H2 =>
 ak (zab H2 38 v4) fun v6 =>
 aL (bo env true (bj env) (bO env (dep+1)) H2 (⟨(dep+1),19,ad.gen H2 (dep+1) 19,0⟩:Ref) (some (.fn (.func 70) [] [])) [v6]) fun v7 H3 =>
 ak (zae 42 19 0 v7) fun v8 =>
 gQ v8 false (zbj x4) fun v9 =>
 gQ v8 false (zab H3 38 v4) fun v10 =>
 gW v8 false H3 (bo env true (bj env) (bO env (dep+1)) H3 (⟨(dep+1),24,ad.gen H3 (dep+1) 24,0⟩:Ref) (some (.fn (.func 193) [] [])) [v9,v10]) fun v11 H4 =>
 gQ v8 false (zae 42 24 0 v11) fun v12 =>
 ak (zam v8 v12) fun v13 =>
 br (some v13) (
 Q (.tup [(.v (.pointer none)),(.v (.bool false))]) H4) (
 ak (zby x4) fun v14 =>
 ak (zad 266 v14 0) fun v15 =>
 ak (zab H4 41 v15) fun v16 =>
 ak (zab H4 38 v4) fun v17 =>
 aL (zch H4 dep 33 41 1 0 v17) fun v18 H5 =>
 aL (zbu H5 dep 34 41 41 v16 v18) fun v19 H6 =>
 ak (zby x4) fun v20 =>
 ak (zad 266 v20 0) fun v21 =>
 aL (zal H6 41 v21 v19) fun v22 H7 =>
 ak (zad 38 v4 0) fun v23 =>
 ak (zab H7 5 v23) fun v24 =>
 ak (zbk 5 38 v24) fun v25 =>
 br (some v25) (
 ak (zad 38 v4 3) fun v26 =>
 ak (zab H7 35 v26) fun v27 =>
 aL (zbl dep H7 42 v27) fun v28 H8 =>
 ak (
  aU env.P false (ad.get H8) (⟨(dep+1),43,ad.gen H8 (dep+1) 43,0⟩:Ref) .len #[244] [v28]) fun v29 =>
  b7 env Tryz.f172 (dep+1) pb [(44,(.v (.int .i64 0))),(4,x4),(42,v28),(12,x12),(13,x13),(14,x14),(43,v29)] H8 Q) (
 ak (
  aH env.P .add 3 (Operand.tmp 14) (Operand.const (Value.int IntKind.i64 1)) (some x14) (some (AV.v (Value.int IntKind.i64 1)))) fun v26 =>
  b7 env Tryz.f172 (dep+1) my [(4,x4),(14,v26),(12,x12),(13,x13)] H7 Q))) (
 Q (.tup [x4,(.v (.bool true))]) H)
theorem C5(dep:Nat)(x4 x14 x12 x13:AV)(H:ad)(Q:AV→ad→Prop)(h : ∀g,uv dep g x4 x14 x12 x13 H Q):b7 env Tryz.f172 (dep+1) my [(4,x4),(14,x14),(12,x12),(13,x13)] H Q:=dG fun g=>bc (live:=CC) (cut:=CT) (n:=500) (Eq.mp (by kernel_rfl) (h g))
def wR(dep:Nat)(g:Nat→AV)(x44 x4 x42 x12 x13 x14 x43:AV)(H:ad)(Q:AV→ad→Prop):Prop :=
 ak (zap 3 44 43 x44 x43) fun v1 =>
 br (some v1) (
 ak (zau H 244 x42 x44) fun v2 =>
 ak (zab H 33 v2) fun v3 =>
 aL (zao H dep 8 33) fun v4 H1 =>
 aL (zal H1 33 v4 v3) fun v5 H2 =>
 ak (zby x4) fun v6 =>
 ak (zad 266 v6 1) fun v7 =>
 ak (zab H2 264 v7) fun v8 =>
 ak (zab H2 33 v4) fun v9 =>
 aL (dO env.P H2 264 (some v8) (some v9) (some (AV.v (Value.bool true)))) fun v10 H3 =>
 ak (zaf 3 44 1 x44) fun v11 =>
  b7 env Tryz.f172 (dep+1) pb [(44,v11),(4,x4),(42,x42),(12,x12),(13,x13),(14,x14),(43,x43)] H3 Q) (
 ak (zaf 3 14 1 x14) fun v2 =>
  b7 env Tryz.f172 (dep+1) my [(4,x4),(14,v2),(12,x12),(13,x13)] H Q)
theorem AD(dep:Nat)(x44 x4 x42 x12 x13 x14 x43:AV)(H:ad)(Q:AV→ad→Prop)(h : ∀g,wR dep g x44 x4 x42 x12 x13 x14 x43 H Q):b7 env Tryz.f172 (dep+1) pb [(44,x44),(4,x4),(42,x42),(12,x12),(13,x13),(14,x14),(43,x43)] H Q:=dG fun g=>bc (live:=CC) (cut:=CT) (n:=500) (Eq.mp (by kernel_rfl) (h g))
noncomputable def jk:Code:=(Tryz.f193.body).getD .skip
def oP:Nat→Option (List Nat):=fun i=>none
def oU:Nat→Bool:=fun i=>false
def eg(dep:Nat)(g:Nat→AV)(x0 x1:AV)(H:ad)(Q:AV→ad→Prop):Prop :=
 aL (zaj H dep 3 38 x1) fun v1 H1 =>
 ak (ch env.P 271 (some [(1,(.fn (.func 218) [] [])),(2,(.fn (.func 219) [] [])),(3,(.fn (.func 220) [] []))])) fun v2 =>
 ak (zad 38 v1 0) fun v3 =>
 ak (zab H1 5 v3) fun v4 =>
 ak (o5 env.P 271 (some v2) (some v4)) fun v5 =>
 ak (zab H1 38 v1) fun v6 =>
 aL (zbv dep H1 12 v5 x0 v6) fun v7 H2 =>
 ak (zak 42 13 0 v7) fun v8 =>
 gQ v8 true (zbj x0) fun v9 =>
 gQ v8 true (zby v9) fun v10 =>
 gQ v8 true (zad 266 v10 0) fun v11 =>
 gQ v8 true (zab H2 41 v11) fun v12 =>
 gQ v8 true (zba H2 dep 20 41 v12) fun v13 =>
 gQ v8 true (zaq 3 20 2048 v13) fun v14 =>
 ak (zag v8 v14) fun v15 =>
 br (some v15) (
 Q (.v (.int .i64 4)) H2) (
 Q v7 H2)
theorem oJ(dep:Nat)(x0 x1:AV)(H:ad)(Q:AV→ad→Prop)(h : ∀g,eg dep g x0 x1 H Q):b7 env Tryz.f193 (dep+1) [.code jk] [(0,x0),(1,x1)] H Q:=⟨fun g=>bc (live:=oP) (cut:=oU) (n:=500) (Eq.mp (by kernel_rfl) (h g))⟩
noncomputable def wH:Code:=(Tryz.f213.body).getD .skip
noncomputable def mz:List Item:=(cE 2 400 [.code wH]).getD []
def Bi:Nat→Option (List Nat):=fun i=>cond (Nat.beq i 2) (some [8,2,1,7]) (none)
def BN:Nat→Bool:=fun i=>false
def B4(g:Nat→AV)(x0:AV)(H:ad)(Q:AV→ad→Prop):Prop :=
 aL (zac H 1 35 x0) fun v1 H1 =>
 ak (zad 35 v1 1) fun v2 =>
 ak (zab H1 3 v2) fun v3 =>
  b7 env Tryz.f213 0 mz [(8,(.v (.int .i64 0))),(2,(.v (.slice none 0 0))),(1,v1),(7,v3)] H1 Q
theorem Ik(x0:AV)(H:ad)(Q:AV→ad→Prop)(h : ∀g,B4 g x0 H Q):b7 env Tryz.f213 0 [.code wH] [(0,x0)] H Q:=⟨fun g=>bc (live:=Bi) (cut:=BN) (n:=500) (Eq.mp (by kernel_rfl) (h g))⟩
def pB(g:Nat→AV)(x8 x2 x1 x7:AV)(H:ad)(Q:AV→ad→Prop):Prop :=
 ak (zap 3 8 7 x8 x7) fun v1 =>
 br (some v1) (
 ak (zab H 35 x1) fun v2 =>
 aL (zaa true H 14 228 [v2,x8]) fun v3 H1 =>
 ak (zaw v3 0) fun v4 =>
 ak (zaw v3 1) fun v5 =>
 aL (zah H1 4 33) fun v6 H2 =>
 aL (zal H2 33 v6 v4) fun v7 H3 =>
 ak (zab H3 33 v6) fun v8 =>
 aL (zbc H3 19 244 1 0 v8) fun v9 H4 =>
 aL (zat H4 20 244 244 x2 v9) fun v10 H5 =>
 ak (zaf 3 8 1 x8) fun v11 =>
  b7 env Tryz.f213 0 mz [(8,v11),(2,v10),(1,x1),(7,x7)] H5 Q) (
 Q x2 H)
theorem xG(x8 x2 x1 x7:AV)(H:ad)(Q:AV→ad→Prop)(h : ∀g,pB g x8 x2 x1 x7 H Q):b7 env Tryz.f213 0 mz [(8,x8),(2,x2),(1,x1),(7,x7)] H Q:=dG fun g=>bc (live:=Bi) (cut:=BN) (n:=500) (Eq.mp (by kernel_rfl) (h g))
noncomputable def iM:Code:=(Tryz.f218.body).getD .skip
def nz:Nat→Option (List Nat):=fun i=>none
def nF:Nat→Bool:=fun i=>false
def dX(dep:Nat)(g:Nat→AV)(x0 x1:AV)(H:ad)(Q:AV→ad→Prop):Prop :=
 aL (zaj H dep 2 230 x0) fun v1 H1 =>
 aL (zaj H1 dep 3 38 x1) fun v2 H2 =>
 ak (zad 38 v2 4) fun v3 =>
 ak (zab H2 33 v3) fun v4 =>
 ak (zbp 33) fun v5 =>
 ak (zav 33 8 9 v4 v5) fun v6 =>
 gQ v6 true (zab H2 230 v1) fun v7 =>
 gQ v6 true (zab H2 38 v2) fun v8 =>
 gQ v6 true (zad 38 v2 4) fun v9 =>
 gQ v6 true (zab H2 33 v9) fun v10 =>
 gW v6 true H2 (zcd dep H2 16 v7 v8 v10) fun v11 H3 =>
 gQ v6 true (zbb v11) fun v12 =>
 ak (zag v6 v12) fun v13 =>
 br (some v13) (
 Q (.v (.int .i64 6)) H3) (
 ak (zab H3 38 v2) fun v14 =>
 aL (bo env true (bj env) (bO env (dep+1)) H3 (⟨(dep+1),21,ad.gen H3 (dep+1) 21,0⟩:Ref) (some (.fn (.func 231) [] [])) [v14]) fun v15 H4 =>
 ak (zaw v15 0) fun v16 =>
 ak (zaw v15 1) fun v17 =>
 aL (zao H4 dep 5 249) fun v18 H5 =>
 aL (zal H5 249 v18 v16) fun v19 H6 =>
 ak (zae 42 24 0 v17) fun v20 =>
 gQ v20 false (zad 38 v2 3) fun v21 =>
 gQ v20 false (zab H6 35 v21) fun v22 =>
 gW v20 false H6 (zbl dep H6 29 v22) fun v23 H7 =>
 gQ v20 false (fp (.func 233) (some []) (some [v1])) fun v24 =>
 gW v20 false H7 (zce dep H7 31 v23 v24) fun v25 H8 =>
 ak (zam v20 v25) fun v26 =>
 br (some v26) (
 Q (.v (.int .i64 2)) H8) (
 ak (zab H8 230 v1) fun v27 =>
 ak (zby v27) fun v28 =>
 ak (zad 266 v28 1) fun v29 =>
 ak (zab H8 264 v29) fun v30 =>
 ak (zba H8 dep 37 264 v30) fun v31 =>
 ak (zad 38 v2 3) fun v32 =>
 ak (zad 35 v32 1) fun v33 =>
 ak (zab H8 3 v33) fun v34 =>
 ak (zbf 3 37 40 v31 v34) fun v35 =>
 ak (zar 3 41 8192 v35) fun v36 =>
 br (some v36) (
 Q (.v (.int .i64 4)) H8) (
 Q (.v (.int .i64 0)) H8)))
theorem np(dep:Nat)(x0 x1:AV)(H:ad)(Q:AV→ad→Prop)(h : ∀g,dX dep g x0 x1 H Q):b7 env Tryz.f218 (dep+1) [.code iM] [(0,x0),(1,x1)] H Q:=⟨fun g=>bc (live:=nz) (cut:=nF) (n:=500) (Eq.mp (by kernel_rfl) (h g))⟩
noncomputable def iL:Code:=(Tryz.f219.body).getD .skip
def ny:Nat→Option (List Nat):=fun i=>none
def nE:Nat→Bool:=fun i=>false
def iO(dep:Nat)(g:Nat→AV)(x0 x1:AV)(H:ad)(Q:AV→ad→Prop):Prop :=
 aL (zaj H dep 3 38 x1) fun v1 H1 =>
 ak (zab H1 38 v1) fun v2 =>
 aL (zcg dep H1 8 x0 v2) fun v3 H2 =>
 ak (zbb v3) fun v4 =>
 br (some v4) (
 Q (.v (.int .i64 6)) H2) (
 ak (zad 38 v1 3) fun v5 =>
 ak (zad 35 v5 0) fun v6 =>
 ak (zad 33 v6 0) fun v7 =>
 ak (zad 31 v7 0) fun v8 =>
 ak (zab H2 29 v8) fun v9 =>
 ak (zad 38 v1 1) fun v10 =>
 ak (zad 31 v10 0) fun v11 =>
 ak (zab H2 29 v11) fun v12 =>
 ak (zav 29 15 18 v9 v12) fun v13 =>
 br (some v13) (
 Q (.v (.int .i64 2)) H2) (
 Q (.v (.int .i64 0)) H2))
theorem nk(dep:Nat)(x0 x1:AV)(H:ad)(Q:AV→ad→Prop)(h : ∀g,iO dep g x0 x1 H Q):b7 env Tryz.f219 (dep+1) [.code iL] [(0,x0),(1,x1)] H Q:=⟨fun g=>bc (live:=ny) (cut:=nE) (n:=500) (Eq.mp (by kernel_rfl) (h g))⟩
noncomputable def iZ:Code:=(Tryz.f220.body).getD .skip
def nS:Nat→Option (List Nat):=fun i=>none
def nU:Nat→Bool:=fun i=>false
def jb(dep:Nat)(g:Nat→AV)(x0 x1:AV)(H:ad)(Q:AV→ad→Prop):Prop :=
 aL (zaj H dep 3 38 x1) fun v1 H1 =>
 ak (zab H1 38 v1) fun v2 =>
 aL (zcg dep H1 9 x0 v2) fun v3 H2 =>
 ak (zbb v3) fun v4 =>
 br (some v4) (
 Q (.v (.int .i64 6)) H2) (
 ak (zby x0) fun v5 =>
 ak (zad 266 v5 0) fun v6 =>
 ak (zab H2 41 v6) fun v7 =>
 ak (zab H2 38 v1) fun v8 =>
 aL (bo env false (bj env) (bO env (dep+1)) H2 (⟨(dep+1),17,ad.gen H2 (dep+1) 17,0⟩:Ref) (some (.fn (.func 235) [] [])) [v7,v8]) fun v9 H3 =>
 ak (zaw v9 0) fun v10 =>
 ak (zaw v9 1) fun v11 =>
 ak (zae 42 20 0 v11) fun v12 =>
 gQ v12 false (zbj v10) fun v13 =>
 gQ v12 false (zbb v13) fun v14 =>
 ak (zam v12 v14) fun v15 =>
 br (some v15) (
 Q (.v (.int .i64 2)) H3) (
 Q (.v (.int .i64 0)) H3))
theorem nM(dep:Nat)(x0 x1:AV)(H:ad)(Q:AV→ad→Prop)(h : ∀g,jb dep g x0 x1 H Q):b7 env Tryz.f220 (dep+1) [.code iZ] [(0,x0),(1,x1)] H Q:=⟨fun g=>bc (live:=nS) (cut:=nU) (n:=500) (Eq.mp (by kernel_rfl) (h g))⟩
noncomputable def jj:Code:=(Tryz.f230.body).getD .skip
def oO:Nat→Option (List Nat):=fun i=>none
def oT:Nat→Bool:=fun i=>false
def fm(dep:Nat)(g:Nat→AV)(x0 x1 x2:AV)(H:ad)(Q:AV→ad→Prop):Prop :=
 aL (zaj H dep 4 38 x1) fun v1 H1 =>
 aL (zaj H1 dep 5 33 x2) fun v2 H2 =>
 ak (zby x0) fun v3 =>
 ak (zad 266 v3 1) fun v4 =>
 ak (zab H2 264 v4) fun v5 =>
 ak (zab H2 33 v2) fun v6 =>
 ak (zbi H2 264 v5 v6) fun v7 =>
 gQ v7 true (zad 33 v2 0) fun v8 =>
 gQ v7 true (zad 31 v8 0) fun v9 =>
 gQ v7 true (zab H2 29 v9) fun v10 =>
 gQ v7 true (zad 38 v1 1) fun v11 =>
 gQ v7 true (zad 31 v11 0) fun v12 =>
 gQ v7 true (zab H2 29 v12) fun v13 =>
 gW v7 true H2 (bo env false (bj env) (bO env (dep+1)) H2 (⟨(dep+1),20,ad.gen H2 (dep+1) 20,0⟩:Ref) (some (.fn (.func 47) [] [])) [v10,v13]) fun v14 H3 =>
 ak (zag v7 v14) fun v15 =>
 Q v15 H3
theorem oI(dep:Nat)(x0 x1 x2:AV)(H:ad)(Q:AV→ad→Prop)(h : ∀g,fm dep g x0 x1 x2 H Q):b7 env Tryz.f230 (dep+1) [.code jj] [(0,x0),(1,x1),(2,x2)] H Q:=⟨fun g=>bc (live:=oO) (cut:=oT) (n:=500) (Eq.mp (by kernel_rfl) (h g))⟩
noncomputable def dz:Code:=(Tryz.f232.body).getD .skip
def fH:Nat→Option (List Nat):=fun i=>none
def fI:Nat→Bool:=fun i=>false
def dA(dep:Nat)(g:Nat→AV)(x0 x1:AV)(H:ad)(Q:AV→ad→Prop):Prop :=
 aL (bo env true (bj env) (bO env (dep+1)) H (⟨(dep+1),7,ad.gen H (dep+1) 7,0⟩:Ref) (some (.fn (.func 241) [] [])) [x0,x1]) fun v1 H1 =>
 ak (zaq 3 7 0 v1) fun v2 =>
 Q v2 H1
theorem fG(dep:Nat)(x0 x1:AV)(H:ad)(Q:AV→ad→Prop)(h : ∀g,dA dep g x0 x1 H Q):b7 env Tryz.f232 (dep+1) [.code dz] [(0,x0),(1,x1)] H Q:=⟨fun g=>bc (live:=fH) (cut:=fI) (n:=500) (Eq.mp (by kernel_rfl) (h g))⟩
noncomputable def hZ:Code:=(Tryz.f233.body).getD .skip
def mM:Nat→Option (List Nat):=fun i=>none
def mT:Nat→Bool:=fun i=>false
def ij(dep:Nat)(g:Nat→AV)(x0 x1:AV)(H:ad)(Q:AV→ad→Prop):Prop :=
 aL (zaj H dep 2 33 x0) fun v1 H1 =>
 ak (zab H1 230 x1) fun v2 =>
 ak (zby v2) fun v3 =>
 ak (zad 266 v3 1) fun v4 =>
 ak (zab H1 264 v4) fun v5 =>
 ak (zab H1 33 v1) fun v6 =>
 ak (zbi H1 264 v5 v6) fun v7 =>
 Q v7 H1
theorem mJ(dep:Nat)(x0 x1:AV)(H:ad)(Q:AV→ad→Prop)(h : ∀g,ij dep g x0 x1 H Q):b7 env Tryz.f233 (dep+1) [.code hZ] [(0,x0),(1,x1)] H Q:=⟨fun g=>bc (live:=mM) (cut:=mT) (n:=500) (Eq.mp (by kernel_rfl) (h g))⟩
noncomputable def jI:Code:=(Tryz.f234.body).getD .skip
def o8:Nat→Option (List Nat):=fun i=>none
def ph:Nat→Bool:=fun i=>false
def jL(dep:Nat)(g:Nat→AV)(x0 x1:AV)(H:ad)(Q:AV→ad→Prop):Prop :=
 aL (zaj H dep 2 230 x0) fun v1 H1 =>
 aL (zaj H1 dep 3 38 x1) fun v2 H2 =>
 ak (zad 38 v2 3) fun v3 =>
 ak (zab H2 35 v3) fun v4 =>
 aL (zbl dep H2 7 v4) fun v5 H3 =>
 ak (fp (.func 242) (some []) (some [v1,v2])) fun v6 =>
 aL (zce dep H3 9 v5 v6) fun v7 H4 =>
 ak (zbb v7) fun v8 =>
 Q v8 H4
theorem oX(dep:Nat)(x0 x1:AV)(H:ad)(Q:AV→ad→Prop)(h : ∀g,jL dep g x0 x1 H Q):b7 env Tryz.f234 (dep+1) [.code jI] [(0,x0),(1,x1)] H Q:=⟨fun g=>bc (live:=o8) (cut:=ph) (n:=500) (Eq.mp (by kernel_rfl) (h g))⟩
noncomputable def cF:Code:=(Tryz.f241.body).getD .skip
noncomputable def bS:List Item:=(cE 2 400 [.code cF]).getD []
def dP:Nat→Option (List Nat):=fun i=>cond (Nat.beq i 2) (some [8,0,1,7]) (none)
def dQ:Nat→Bool:=fun i=>false
def dR(dep:Nat)(g:Nat→AV)(x0 x1:AV)(H:ad)(Q:AV→ad→Prop):Prop :=
 ak (zba H dep 7 244 x0) fun v1 =>
  b7 env Tryz.f241 (dep+1) bS [(8,(.v (.int .i64 0))),(0,x0),(1,x1),(7,v1)] H Q
theorem gl(dep:Nat)(x0 x1:AV)(H:ad)(Q:AV→ad→Prop)(h : ∀g,dR dep g x0 x1 H Q):b7 env Tryz.f241 (dep+1) [.code cF] [(0,x0),(1,x1)] H Q:=⟨fun g=>bc (live:=dP) (cut:=dQ) (n:=500) (Eq.mp (by kernel_rfl) (h g))⟩
def cC(dep:Nat)(g:Nat→AV)(x8 x0 x1 x7:AV)(H:ad)(Q:AV→ad→Prop):Prop :=
 ak (zap 3 8 7 x8 x7) fun v1 =>
 br (some v1) (
 ak (zau H 244 x0 x8) fun v2 =>
 ak (zab H 33 v2) fun v3 =>
 aL (zbd dep H 16 x1 v3) fun v4 H1 =>
 br (some v4) (
 Q x8 H1) (
 ak (zaf 3 8 1 x8) fun v5 =>
  b7 env Tryz.f241 (dep+1) bS [(8,v5),(0,x0),(1,x1),(7,x7)] H1 Q)) (
 Q (.v (.int .i64 (-1))) H)
theorem dC(dep:Nat)(x8 x0 x1 x7:AV)(H:ad)(Q:AV→ad→Prop)(h : ∀g,cC dep g x8 x0 x1 x7 H Q):b7 env Tryz.f241 (dep+1) bS [(8,x8),(0,x0),(1,x1),(7,x7)] H Q:=dG fun g=>bc (live:=dP) (cut:=dQ) (n:=500) (Eq.mp (by kernel_rfl) (h g))
noncomputable def ja:Code:=(Tryz.f242.body).getD .skip
def nT:Nat→Option (List Nat):=fun i=>none
def nV:Nat→Bool:=fun i=>false
def jc(dep:Nat)(g:Nat→AV)(x0 x1 x2:AV)(H:ad)(Q:AV→ad→Prop):Prop :=
 aL (zaj H dep 3 33 x0) fun v1 H1 =>
 ak (zab H1 230 x1) fun v2 =>
 ak (zab H1 38 x2) fun v3 =>
 ak (zab H1 33 v1) fun v4 =>
 aL (zcd dep H1 8 v2 v3 v4) fun v5 H2 =>
 ak (zbb v5) fun v6 =>
 Q v6 H2
theorem nN(dep:Nat)(x0 x1 x2:AV)(H:ad)(Q:AV→ad→Prop)(h : ∀g,jc dep g x0 x1 x2 H Q):b7 env Tryz.f242 (dep+1) [.code ja] [(0,x0),(1,x1),(2,x2)] H Q:=⟨fun g=>bc (live:=nT) (cut:=nV) (n:=500) (Eq.mp (by kernel_rfl) (h g))⟩
end Go.Proofs.YtmkmimgokagimaaGreat
