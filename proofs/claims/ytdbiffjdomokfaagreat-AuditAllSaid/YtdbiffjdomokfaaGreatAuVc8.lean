/-
  What is to be shown of each function, computed from its code. No statement of a seat is proved here.
-/
import Derived.Test.YtdbiffjdomokfaaGreatAuTy
set_option linter.unusedVariables false
set_option maxRecDepth 1000000
namespace Go.Proofs.YtdbiffjdomokfaaGreat
open Go.Ab
noncomputable def An:Code:=(Tryz.f94.body).getD .skip
def GM:Nat→Option (List Nat):=fun i=>none
def Hv:Nat→Bool:=fun i=>false
def rz(g:Nat→AV)(x0 x1:AV)(H:ab)(Q:AV→ab→Prop):Prop :=
 aO (zac H 3 50 x1) fun v1 H1 =>
 aO (zaa true H1 10 114 [x0]) fun v2 H2 =>
 ak (zbd v2 0) fun v3 =>
 ak (zbd v2 1) fun v4 =>
 ak (zbg v4) fun v5 =>
 br (some v5) (
 Q (.v (.int .i64 8)) H2) (
 ak (zab H2 50 v1) fun v6 =>
 aO (zaa true H2 16 115 [v6]) fun v7 H3 =>
 ak (zaf 23 17 0 v7) fun v8 =>
 br (some v8) (
 Q v7 H3) (
 ak (zab H3 50 v1) fun v9 =>
 aO (zaa true H3 22 116 [v3,v9]) fun v10 H4 =>
 Q v10 H4))
theorem FN(x0 x1:AV)(H:ab)(Q:AV→ab→Prop)(h : ∀g,rz g x0 x1 H Q):bP env Tryz.f94 0 [.code An] [(0,x0),(1,x1)] H Q:=⟨fun g=>aV (live:=GM) (cut:=Hv) (n:=500) (Eq.mp (by kernel_rfl) (h g))⟩
noncomputable def vN:Code:=(Tryz.f114.body).getD .skip
noncomputable def ly:List Item:=(bY 3 400 [.code vN]).getD []
noncomputable def nI:List Item:=(bY 10 400 [.code vN]).getD []
def zA:Nat→Option (List Nat):=fun i=>cond (Nat.beq i 3) (some [4,14,12,13]) (cond (Nat.beq i 10) (some [44,4,42,12,13,14,43]) (none))
def zO:Nat→Bool:=fun i=>false
def Er(dep:Nat)(g:Nat→AV)(x0:AV)(H:ab)(Q:AV→ab→Prop):Prop :=
 aO (zbn H dep 9) fun v1 H1 =>
 ak (zcl 198 1 v1) fun v2 =>
 aO (zak H1 dep 11 198 v2) fun v3 H2 =>
 ak (zbb H2 dep 13 90 x0) fun v4 =>
  bP env Tryz.f114 (dep+1) ly [(4,v3),(14,(.v (.int .i64 0))),(12,x0),(13,v4)] H2 Q
theorem Ki(dep:Nat)(x0:AV)(H:ab)(Q:AV→ab→Prop)(h : ∀g,Er dep g x0 H Q):bP env Tryz.f114 (dep+1) [.code vN] [(0,x0)] H Q:=⟨fun g=>aV (live:=zA) (cut:=zO) (n:=500) (Eq.mp (by kernel_rfl) (h g))⟩
def ry(dep:Nat)(g:Nat→AV)(x4 x14 x12 x13:AV)(H:ab)(Q:AV→ab→Prop):Prop :=
 ak (zan 3 14 13 x14 x13) fun v1 =>
 br (some v1) (
 ak (zau H 90 x12 x14) fun v2 =>
 ak (zab H 50 v2) fun v3 =>
 aO (zaq H dep 6 50) fun v4 H1 =>
 aO (zam H1 50 v4 v3) fun v5 H2 =>
 ak (zab H2 50 v4) fun v6 =>
 aO (bn env true (bj env) (bU env (dep+1)) H2 (⟨(dep+1),19,ab.gen H2 (dep+1) 19,0⟩:Ref) (some (.fn (.func 115) [] [])) [v6]) fun v7 H3 =>
 ak (zaf 23 19 0 v7) fun v8 =>
 gQ v8 false (zbi x4) fun v9 =>
 gQ v8 false (zab H3 50 v4) fun v10 =>
 gW v8 false H3 (bn env true (bj env) (bU env (dep+1)) H3 (⟨(dep+1),24,ab.gen H3 (dep+1) 24,0⟩:Ref) (some (.fn (.func 116) [] [])) [v9,v10]) fun v11 H4 =>
 gQ v8 false (zaf 23 24 0 v11) fun v12 =>
 ak (zal v8 v12) fun v13 =>
 br (some v13) (
 Q (.tup [(.v (.pointer none)),(.v (.bool false))]) H4) (
 ak (zcd x4) fun v14 =>
 ak (zad 198 v14 0) fun v15 =>
 ak (zab H4 90 v15) fun v16 =>
 ak (zab H4 50 v4) fun v17 =>
 aO (zcg H4 dep 33 90 1 0 v17) fun v18 H5 =>
 aO (zbr H5 dep 34 90 90 v16 v18) fun v19 H6 =>
 ak (zcd x4) fun v20 =>
 ak (zad 198 v20 0) fun v21 =>
 aO (zam H6 90 v21 v19) fun v22 H7 =>
 ak (zad 50 v4 0) fun v23 =>
 ak (zab H7 5 v23) fun v24 =>
 ak (zbk 5 38 v24) fun v25 =>
 br (some v25) (
 ak (zad 50 v4 3) fun v26 =>
 ak (zab H7 47 v26) fun v27 =>
 aO (zbm dep H7 42 v27) fun v28 H8 =>
 ak (
  aK env.P false (ab.get H8) (⟨(dep+1),43,ab.gen H8 (dep+1) 43,0⟩:Ref) .len #[166] [v28]) fun v29 =>
  bP env Tryz.f114 (dep+1) nI [(44,(.v (.int .i64 0))),(4,x4),(42,v28),(12,x12),(13,x13),(14,x14),(43,v29)] H8 Q) (
 ak (
  aE env.P .add 3 (Operand.tmp 14) (Operand.const (Value.int IntKind.i64 1)) (some x14) (some (AV.v (Value.int IntKind.i64 1)))) fun v26 =>
  bP env Tryz.f114 (dep+1) ly [(4,x4),(14,v26),(12,x12),(13,x13)] H7 Q))) (
 Q (.tup [x4,(.v (.bool true))]) H)
theorem z0(dep:Nat)(x4 x14 x12 x13:AV)(H:ab)(Q:AV→ab→Prop)(h : ∀g,ry dep g x4 x14 x12 x13 H Q):bP env Tryz.f114 (dep+1) ly [(4,x4),(14,x14),(12,x12),(13,x13)] H Q:=cU fun g=>aV (live:=zA) (cut:=zO) (n:=500) (Eq.mp (by kernel_rfl) (h g))
def tG(dep:Nat)(g:Nat→AV)(x44 x4 x42 x12 x13 x14 x43:AV)(H:ab)(Q:AV→ab→Prop):Prop :=
 ak (zan 3 44 43 x44 x43) fun v1 =>
 br (some v1) (
 ak (zau H 166 x42 x44) fun v2 =>
 ak (zab H 45 v2) fun v3 =>
 aO (zaq H dep 8 45) fun v4 H1 =>
 aO (zam H1 45 v4 v3) fun v5 H2 =>
 ak (zcd x4) fun v6 =>
 ak (zad 198 v6 1) fun v7 =>
 ak (zab H2 196 v7) fun v8 =>
 ak (zab H2 45 v4) fun v9 =>
 aO (dL env.P H2 196 (some v8) (some v9) (some (AV.v (Value.bool true)))) fun v10 H3 =>
 ak (zae 3 44 1 x44) fun v11 =>
  bP env Tryz.f114 (dep+1) nI [(44,v11),(4,x4),(42,x42),(12,x12),(13,x13),(14,x14),(43,x43)] H3 Q) (
 ak (zae 3 14 1 x14) fun v2 =>
  bP env Tryz.f114 (dep+1) ly [(4,x4),(14,v2),(12,x12),(13,x13)] H Q)
theorem xB(dep:Nat)(x44 x4 x42 x12 x13 x14 x43:AV)(H:ab)(Q:AV→ab→Prop)(h : ∀g,tG dep g x44 x4 x42 x12 x13 x14 x43 H Q):bP env Tryz.f114 (dep+1) nI [(44,x44),(4,x4),(42,x42),(12,x12),(13,x13),(14,x14),(43,x43)] H Q:=cU fun g=>aV (live:=zA) (cut:=zO) (n:=500) (Eq.mp (by kernel_rfl) (h g))
noncomputable def iT:Code:=(Tryz.f116.body).getD .skip
def ng:Nat→Option (List Nat):=fun i=>none
def np:Nat→Bool:=fun i=>false
def dZ(dep:Nat)(g:Nat→AV)(x0 x1:AV)(H:ab)(Q:AV→ab→Prop):Prop :=
 aO (zak H dep 3 50 x1) fun v1 H1 =>
 ak (cy env.P 206 (some [(1,(.fn (.func 133) [] [])),(2,(.fn (.func 134) [] [])),(3,(.fn (.func 135) [] []))])) fun v2 =>
 ak (zad 50 v1 0) fun v3 =>
 ak (zab H1 5 v3) fun v4 =>
 ak (nC env.P 206 (some v2) (some v4)) fun v5 =>
 ak (zab H1 50 v1) fun v6 =>
 aO (zbs dep H1 12 v5 x0 v6) fun v7 H2 =>
 ak (zai 23 13 0 v7) fun v8 =>
 gQ v8 true (zbi x0) fun v9 =>
 gQ v8 true (zcd v9) fun v10 =>
 gQ v8 true (zad 198 v10 0) fun v11 =>
 gQ v8 true (zab H2 90 v11) fun v12 =>
 gQ v8 true (zbb H2 dep 20 90 v12) fun v13 =>
 gQ v8 true (zao 3 20 2048 v13) fun v14 =>
 ak (zag v8 v14) fun v15 =>
 br (some v15) (
 Q (.v (.int .i64 4)) H2) (
 Q v7 H2)
theorem m9(dep:Nat)(x0 x1:AV)(H:ab)(Q:AV→ab→Prop)(h : ∀g,dZ dep g x0 x1 H Q):bP env Tryz.f116 (dep+1) [.code iT] [(0,x0),(1,x1)] H Q:=⟨fun g=>aV (live:=ng) (cut:=np) (n:=500) (Eq.mp (by kernel_rfl) (h g))⟩
noncomputable def tz:Code:=(Tryz.f130.body).getD .skip
noncomputable def lz:List Item:=(bY 2 400 [.code tz]).getD []
def yn:Nat→Option (List Nat):=fun i=>cond (Nat.beq i 2) (some [8,2,1,7]) (none)
def yQ:Nat→Bool:=fun i=>false
def y4(g:Nat→AV)(x0:AV)(H:ab)(Q:AV→ab→Prop):Prop :=
 aO (zac H 1 47 x0) fun v1 H1 =>
 ak (zad 47 v1 1) fun v2 =>
 ak (zab H1 3 v2) fun v3 =>
  bP env Tryz.f130 0 lz [(8,(.v (.int .i64 0))),(2,(.v (.slice none 0 0))),(1,v1),(7,v3)] H1 Q
theorem EC(x0:AV)(H:ab)(Q:AV→ab→Prop)(h : ∀g,y4 g x0 H Q):bP env Tryz.f130 0 [.code tz] [(0,x0)] H Q:=⟨fun g=>aV (live:=yn) (cut:=yQ) (n:=500) (Eq.mp (by kernel_rfl) (h g))⟩
def nY(g:Nat→AV)(x8 x2 x1 x7:AV)(H:ab)(Q:AV→ab→Prop):Prop :=
 ak (zan 3 8 7 x8 x7) fun v1 =>
 br (some v1) (
 ak (zab H 47 x1) fun v2 =>
 aO (zaa true H 14 145 [v2,x8]) fun v3 H1 =>
 ak (zbd v3 0) fun v4 =>
 ak (zbd v3 1) fun v5 =>
 aO (zaj H1 4 45) fun v6 H2 =>
 aO (zam H2 45 v6 v4) fun v7 H3 =>
 ak (zab H3 45 v6) fun v8 =>
 aO (zaw H3 19 166 1 0 v8) fun v9 H4 =>
 aO (zas H4 20 166 166 x2 v9) fun v10 H5 =>
 ak (zae 3 8 1 x8) fun v11 =>
  bP env Tryz.f130 0 lz [(8,v11),(2,v10),(1,x1),(7,x7)] H5 Q) (
 Q x2 H)
theorem uq(x8 x2 x1 x7:AV)(H:ab)(Q:AV→ab→Prop)(h : ∀g,nY g x8 x2 x1 x7 H Q):bP env Tryz.f130 0 lz [(8,x8),(2,x2),(1,x1),(7,x7)] H Q:=cU fun g=>aV (live:=yn) (cut:=yQ) (n:=500) (Eq.mp (by kernel_rfl) (h g))
noncomputable def im:Code:=(Tryz.f133.body).getD .skip
def mr:Nat→Option (List Nat):=fun i=>none
def mz:Nat→Bool:=fun i=>false
def dU(dep:Nat)(g:Nat→AV)(x0 x1:AV)(H:ab)(Q:AV→ab→Prop):Prop :=
 aO (zak H dep 2 179 x0) fun v1 H1 =>
 aO (zak H1 dep 3 50 x1) fun v2 H2 =>
 ak (zad 50 v2 4) fun v3 =>
 ak (zab H2 45 v3) fun v4 =>
 ak (zch 45) fun v5 =>
 ak (zbc 45 8 9 v4 v5) fun v6 =>
 gQ v6 true (zab H2 179 v1) fun v7 =>
 gQ v6 true (zab H2 50 v2) fun v8 =>
 gQ v6 true (zad 50 v2 4) fun v9 =>
 gQ v6 true (zab H2 45 v9) fun v10 =>
 gW v6 true H2 (zca dep H2 16 v7 v8 v10) fun v11 H3 =>
 gQ v6 true (zbg v11) fun v12 =>
 ak (zag v6 v12) fun v13 =>
 br (some v13) (
 Q (.v (.int .i64 6)) H3) (
 ak (zab H3 50 v2) fun v14 =>
 aO (bn env true (bj env) (bU env (dep+1)) H3 (⟨(dep+1),21,ab.gen H3 (dep+1) 21,0⟩:Ref) (some (.fn (.func 155) [] [])) [v14]) fun v15 H4 =>
 ak (zbd v15 0) fun v16 =>
 ak (zbd v15 1) fun v17 =>
 aO (zaq H4 dep 5 171) fun v18 H5 =>
 aO (zam H5 171 v18 v16) fun v19 H6 =>
 ak (zaf 23 24 0 v17) fun v20 =>
 gQ v20 false (zad 50 v2 3) fun v21 =>
 gQ v20 false (zab H6 47 v21) fun v22 =>
 gW v20 false H6 (zbm dep H6 29 v22) fun v23 H7 =>
 gQ v20 false (sf (.func 157) (some []) (some [v1])) fun v24 =>
 gW v20 false H7 (zcb dep H7 31 v23 v24) fun v25 H8 =>
 ak (zal v20 v25) fun v26 =>
 br (some v26) (
 Q (.v (.int .i64 2)) H8) (
 ak (zab H8 179 v1) fun v27 =>
 ak (zcd v27) fun v28 =>
 ak (zad 198 v28 1) fun v29 =>
 ak (zab H8 196 v29) fun v30 =>
 ak (zbb H8 dep 37 196 v30) fun v31 =>
 ak (zad 50 v2 3) fun v32 =>
 ak (zad 47 v32 1) fun v33 =>
 ak (zab H8 3 v33) fun v34 =>
 ak (zba 3 37 40 v31 v34) fun v35 =>
 ak (zar 3 41 8192 v35) fun v36 =>
 br (some v36) (
 Q (.v (.int .i64 4)) H8) (
 Q (.v (.int .i64 0)) H8)))
theorem mh(dep:Nat)(x0 x1:AV)(H:ab)(Q:AV→ab→Prop)(h : ∀g,dU dep g x0 x1 H Q):bP env Tryz.f133 (dep+1) [.code im] [(0,x0),(1,x1)] H Q:=⟨fun g=>aV (live:=mr) (cut:=mz) (n:=500) (Eq.mp (by kernel_rfl) (h g))⟩
noncomputable def il:Code:=(Tryz.f134.body).getD .skip
def mq:Nat→Option (List Nat):=fun i=>none
def my:Nat→Bool:=fun i=>false
def ir(dep:Nat)(g:Nat→AV)(x0 x1:AV)(H:ab)(Q:AV→ab→Prop):Prop :=
 aO (zak H dep 3 50 x1) fun v1 H1 =>
 ak (zab H1 50 v1) fun v2 =>
 aO (zce dep H1 8 x0 v2) fun v3 H2 =>
 ak (zbg v3) fun v4 =>
 br (some v4) (
 Q (.v (.int .i64 6)) H2) (
 ak (zad 50 v1 3) fun v5 =>
 ak (zad 47 v5 0) fun v6 =>
 ak (zad 45 v6 0) fun v7 =>
 ak (zad 40 v7 0) fun v8 =>
 ak (zab H2 35 v8) fun v9 =>
 ak (zad 50 v1 1) fun v10 =>
 ak (zad 40 v10 0) fun v11 =>
 ak (zab H2 35 v11) fun v12 =>
 ak (zbc 35 15 18 v9 v12) fun v13 =>
 br (some v13) (
 Q (.v (.int .i64 2)) H2) (
 Q (.v (.int .i64 0)) H2))
theorem mg(dep:Nat)(x0 x1:AV)(H:ab)(Q:AV→ab→Prop)(h : ∀g,ir dep g x0 x1 H Q):bP env Tryz.f134 (dep+1) [.code il] [(0,x0),(1,x1)] H Q:=⟨fun g=>aV (live:=mq) (cut:=my) (n:=500) (Eq.mp (by kernel_rfl) (h g))⟩
noncomputable def iH:Code:=(Tryz.f135.body).getD .skip
def mP:Nat→Option (List Nat):=fun i=>none
def mR:Nat→Bool:=fun i=>false
def iJ(dep:Nat)(g:Nat→AV)(x0 x1:AV)(H:ab)(Q:AV→ab→Prop):Prop :=
 aO (zak H dep 3 50 x1) fun v1 H1 =>
 ak (zab H1 50 v1) fun v2 =>
 aO (zce dep H1 9 x0 v2) fun v3 H2 =>
 ak (zbg v3) fun v4 =>
 br (some v4) (
 Q (.v (.int .i64 6)) H2) (
 ak (zcd x0) fun v5 =>
 ak (zad 198 v5 0) fun v6 =>
 ak (zab H2 90 v6) fun v7 =>
 ak (zab H2 50 v1) fun v8 =>
 aO (bn env false (bj env) (bU env (dep+1)) H2 (⟨(dep+1),17,ab.gen H2 (dep+1) 17,0⟩:Ref) (some (.fn (.func 159) [] [])) [v7,v8]) fun v9 H3 =>
 ak (zbd v9 0) fun v10 =>
 ak (zbd v9 1) fun v11 =>
 ak (zaf 23 20 0 v11) fun v12 =>
 gQ v12 false (zbi v10) fun v13 =>
 gQ v12 false (zbg v13) fun v14 =>
 ak (zal v12 v14) fun v15 =>
 br (some v15) (
 Q (.v (.int .i64 2)) H3) (
 Q (.v (.int .i64 0)) H3))
theorem mM(dep:Nat)(x0 x1:AV)(H:ab)(Q:AV→ab→Prop)(h : ∀g,iJ dep g x0 x1 H Q):bP env Tryz.f135 (dep+1) [.code iH] [(0,x0),(1,x1)] H Q:=⟨fun g=>aV (live:=mP) (cut:=mR) (n:=500) (Eq.mp (by kernel_rfl) (h g))⟩
noncomputable def iS:Code:=(Tryz.f154.body).getD .skip
def nf:Nat→Option (List Nat):=fun i=>none
def nm:Nat→Bool:=fun i=>false
def fe(dep:Nat)(g:Nat→AV)(x0 x1 x2:AV)(H:ab)(Q:AV→ab→Prop):Prop :=
 aO (zak H dep 4 50 x1) fun v1 H1 =>
 aO (zak H1 dep 5 45 x2) fun v2 H2 =>
 ak (zcd x0) fun v3 =>
 ak (zad 198 v3 1) fun v4 =>
 ak (zab H2 196 v4) fun v5 =>
 ak (zab H2 45 v2) fun v6 =>
 ak (zbj H2 196 v5 v6) fun v7 =>
 gQ v7 true (zad 45 v2 0) fun v8 =>
 gQ v7 true (zad 40 v8 0) fun v9 =>
 gQ v7 true (zab H2 35 v9) fun v10 =>
 gQ v7 true (zad 50 v1 1) fun v11 =>
 gQ v7 true (zad 40 v11 0) fun v12 =>
 gQ v7 true (zab H2 35 v12) fun v13 =>
 gW v7 true H2 (bn env false (bj env) (bU env (dep+1)) H2 (⟨(dep+1),20,ab.gen H2 (dep+1) 20,0⟩:Ref) (some (.fn (.func 20) [] [])) [v10,v13]) fun v14 H3 =>
 ak (zag v7 v14) fun v15 =>
 Q v15 H3
theorem m8(dep:Nat)(x0 x1 x2:AV)(H:ab)(Q:AV→ab→Prop)(h : ∀g,fe dep g x0 x1 x2 H Q):bP env Tryz.f154 (dep+1) [.code iS] [(0,x0),(1,x1),(2,x2)] H Q:=⟨fun g=>aV (live:=nf) (cut:=nm) (n:=500) (Eq.mp (by kernel_rfl) (h g))⟩
noncomputable def du:Code:=(Tryz.f156.body).getD .skip
def fA:Nat→Option (List Nat):=fun i=>none
def fB:Nat→Bool:=fun i=>false
def dv(dep:Nat)(g:Nat→AV)(x0 x1:AV)(H:ab)(Q:AV→ab→Prop):Prop :=
 aO (bn env true (bj env) (bU env (dep+1)) H (⟨(dep+1),7,ab.gen H (dep+1) 7,0⟩:Ref) (some (.fn (.func 166) [] [])) [x0,x1]) fun v1 H1 =>
 ak (zao 3 7 0 v1) fun v2 =>
 Q v2 H1
theorem fy(dep:Nat)(x0 x1:AV)(H:ab)(Q:AV→ab→Prop)(h : ∀g,dv dep g x0 x1 H Q):bP env Tryz.f156 (dep+1) [.code du] [(0,x0),(1,x1)] H Q:=⟨fun g=>aV (live:=fA) (cut:=fB) (n:=500) (Eq.mp (by kernel_rfl) (h g))⟩
noncomputable def gJ:Code:=(Tryz.f157.body).getD .skip
def lH:Nat→Option (List Nat):=fun i=>none
def lO:Nat→Bool:=fun i=>false
def gN(dep:Nat)(g:Nat→AV)(x0 x1:AV)(H:ab)(Q:AV→ab→Prop):Prop :=
 aO (zak H dep 2 45 x0) fun v1 H1 =>
 ak (zab H1 179 x1) fun v2 =>
 ak (zcd v2) fun v3 =>
 ak (zad 198 v3 1) fun v4 =>
 ak (zab H1 196 v4) fun v5 =>
 ak (zab H1 45 v1) fun v6 =>
 ak (zbj H1 196 v5 v6) fun v7 =>
 Q v7 H1
theorem lD(dep:Nat)(x0 x1:AV)(H:ab)(Q:AV→ab→Prop)(h : ∀g,gN dep g x0 x1 H Q):bP env Tryz.f157 (dep+1) [.code gJ] [(0,x0),(1,x1)] H Q:=⟨fun g=>aV (live:=lH) (cut:=lO) (n:=500) (Eq.mp (by kernel_rfl) (h g))⟩
noncomputable def jm:Code:=(Tryz.f158.body).getD .skip
def nF:Nat→Option (List Nat):=fun i=>none
def nM:Nat→Bool:=fun i=>false
def jo(dep:Nat)(g:Nat→AV)(x0 x1:AV)(H:ab)(Q:AV→ab→Prop):Prop :=
 aO (zak H dep 2 179 x0) fun v1 H1 =>
 aO (zak H1 dep 3 50 x1) fun v2 H2 =>
 ak (zad 50 v2 3) fun v3 =>
 ak (zab H2 47 v3) fun v4 =>
 aO (zbm dep H2 7 v4) fun v5 H3 =>
 ak (sf (.func 167) (some []) (some [v1,v2])) fun v6 =>
 aO (zcb dep H3 9 v5 v6) fun v7 H4 =>
 ak (zbg v7) fun v8 =>
 Q v8 H4
theorem nx(dep:Nat)(x0 x1:AV)(H:ab)(Q:AV→ab→Prop)(h : ∀g,jo dep g x0 x1 H Q):bP env Tryz.f158 (dep+1) [.code jm] [(0,x0),(1,x1)] H Q:=⟨fun g=>aV (live:=nF) (cut:=nM) (n:=500) (Eq.mp (by kernel_rfl) (h g))⟩
noncomputable def ck:Code:=(Tryz.f166.body).getD .skip
noncomputable def bH:List Item:=(bY 2 400 [.code ck]).getD []
def dM:Nat→Option (List Nat):=fun i=>cond (Nat.beq i 2) (some [8,0,1,7]) (none)
def dO:Nat→Bool:=fun i=>false
def dP(dep:Nat)(g:Nat→AV)(x0 x1:AV)(H:ab)(Q:AV→ab→Prop):Prop :=
 ak (zbb H dep 7 166 x0) fun v1 =>
  bP env Tryz.f166 (dep+1) bH [(8,(.v (.int .i64 0))),(0,x0),(1,x1),(7,v1)] H Q
theorem fV(dep:Nat)(x0 x1:AV)(H:ab)(Q:AV→ab→Prop)(h : ∀g,dP dep g x0 x1 H Q):bP env Tryz.f166 (dep+1) [.code ck] [(0,x0),(1,x1)] H Q:=⟨fun g=>aV (live:=dM) (cut:=dO) (n:=500) (Eq.mp (by kernel_rfl) (h g))⟩
def ca(dep:Nat)(g:Nat→AV)(x8 x0 x1 x7:AV)(H:ab)(Q:AV→ab→Prop):Prop :=
 ak (zan 3 8 7 x8 x7) fun v1 =>
 br (some v1) (
 ak (zau H 166 x0 x8) fun v2 =>
 ak (zab H 45 v2) fun v3 =>
 aO (zbt dep H 16 x1 v3) fun v4 H1 =>
 br (some v4) (
 Q x8 H1) (
 ak (zae 3 8 1 x8) fun v5 =>
  bP env Tryz.f166 (dep+1) bH [(8,v5),(0,x0),(1,x1),(7,x7)] H1 Q)) (
 Q (.v (.int .i64 (-1))) H)
theorem dz(dep:Nat)(x8 x0 x1 x7:AV)(H:ab)(Q:AV→ab→Prop)(h : ∀g,ca dep g x8 x0 x1 x7 H Q):bP env Tryz.f166 (dep+1) bH [(8,x8),(0,x0),(1,x1),(7,x7)] H Q:=cU fun g=>aV (live:=dM) (cut:=dO) (n:=500) (Eq.mp (by kernel_rfl) (h g))
noncomputable def iI:Code:=(Tryz.f167.body).getD .skip
def mQ:Nat→Option (List Nat):=fun i=>none
def mS:Nat→Bool:=fun i=>false
def iK(dep:Nat)(g:Nat→AV)(x0 x1 x2:AV)(H:ab)(Q:AV→ab→Prop):Prop :=
 aO (zak H dep 3 45 x0) fun v1 H1 =>
 ak (zab H1 179 x1) fun v2 =>
 ak (zab H1 50 x2) fun v3 =>
 ak (zab H1 45 v1) fun v4 =>
 aO (zca dep H1 8 v2 v3 v4) fun v5 H2 =>
 ak (zbg v5) fun v6 =>
 Q v6 H2
theorem mN(dep:Nat)(x0 x1 x2:AV)(H:ab)(Q:AV→ab→Prop)(h : ∀g,iK dep g x0 x1 x2 H Q):bP env Tryz.f167 (dep+1) [.code iI] [(0,x0),(1,x1),(2,x2)] H Q:=⟨fun g=>aV (live:=mQ) (cut:=mS) (n:=500) (Eq.mp (by kernel_rfl) (h g))⟩
end Go.Proofs.YtdbiffjdomokfaaGreat
