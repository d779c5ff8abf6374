/-
  What is to be shown of each function, computed from its code. No statement of a seat is proved here.
-/
import Derived.Test.YtdbiffjdomokfaaGreatAuTy
set_option linter.unusedVariables false
set_option maxRecDepth 1000000
namespace Go.Proofs.YtdbiffjdomokfaaGreat
open Go.Ab
noncomputable def AP:Code:=(Tryz.f94.body).getD .skip
def Hr:Nat→Option (List Nat):=fun i=>none
def Ik:Nat→Bool:=fun i=>false
def rQ(g:Nat→AV)(x0 x1:AV)(H:ab)(Q:AV→ab→Prop):Prop :=
 aO (zac H 3 50 x1) fun v1 H1 =>
 aO (zaa true H1 10 114 [x0]) fun v2 H2 =>
 ak (zbb v2 0) fun v3 =>
 ak (zbb v2 1) fun v4 =>
 ak (zbg v4) fun v5 =>
 br (some v5) (
 Q (.v (.int .i64 8)) H2) (
 ak (zab H2 50 v1) fun v6 =>
 aO (zaa true H2 16 115 [v6]) fun v7 H3 =>
 ak (zaf 23 17 0 v7) fun v8 =>
 br (some v8) (
 Q v7 H3) (
 ak (zab H3 50 v1) fun v9 =>
 aO (zaa true H3 22 116 [v3,v9]) fun v10 H4 =>
 Q v10 H4))
theorem Gv(x0 x1:AV)(H:ab)(Q:AV→ab→Prop)(h : ∀g,rQ g x0 x1 H Q):bT env Tryz.f94 0 [.code AP] [(0,x0),(1,x1)] H Q:=⟨fun g=>aX (live:=Hr) (cut:=Ik) (n:=500) (Eq.mp (by kernel_rfl) (h g))⟩
noncomputable def wB:Code:=(Tryz.f114.body).getD .skip
noncomputable def lH:List Item:=(b7 3 400 [.code wB]).getD []
noncomputable def nT:List Item:=(b7 10 400 [.code wB]).getD []
def zX:Nat→Option (List Nat):=fun i=>cond (Nat.beq i 3) (some [4,14,12,13]) (cond (Nat.beq i 10) (some [44,4,42,12,13,14,43]) (none))
def Ai:Nat→Bool:=fun i=>false
def E4(dep:Nat)(g:Nat→AV)(x0:AV)(H:ab)(Q:AV→ab→Prop):Prop :=
 aO (zbm H dep 9) fun v1 H1 =>
 ak (zcm 198 1 v1) fun v2 =>
 aO (zak H1 dep 11 198 v2) fun v3 H2 =>
 ak (zbc H2 dep 13 90 x0) fun v4 =>
  bT env Tryz.f114 (dep+1) lH [(4,v3),(14,(.v (.int .i64 0))),(12,x0),(13,v4)] H2 Q
theorem K5(dep:Nat)(x0:AV)(H:ab)(Q:AV→ab→Prop)(h : ∀g,E4 dep g x0 H Q):bT env Tryz.f114 (dep+1) [.code wB] [(0,x0)] H Q:=⟨fun g=>aX (live:=zX) (cut:=Ai) (n:=500) (Eq.mp (by kernel_rfl) (h g))⟩
def rP(dep:Nat)(g:Nat→AV)(x4 x14 x12 x13:AV)(H:ab)(Q:AV→ab→Prop):Prop :=
 ak (zao 3 14 13 x14 x13) fun v1 =>
 br (some v1) (
 ak (zau H 90 x12 x14) fun v2 =>
 ak (zab H 50 v2) fun v3 =>
 aO (zaq H dep 6 50) fun v4 H1 =>
 aO (zam H1 50 v4 v3) fun v5 H2 =>
 ak (zab H2 50 v4) fun v6 =>
 aO (bo env true (bj env) (bV env (dep+1)) H2 (⟨(dep+1),19,ab.gen H2 (dep+1) 19,0⟩:Ref) (some (.fn (.func 115) [] [])) [v6]) fun v7 H3 =>
 ak (zaf 23 19 0 v7) fun v8 =>
 gQ v8 false (zbj x4) fun v9 =>
 gQ v8 false (zab H3 50 v4) fun v10 =>
 gW v8 false H3 (bo env true (bj env) (bV env (dep+1)) H3 (⟨(dep+1),24,ab.gen H3 (dep+1) 24,0⟩:Ref) (some (.fn (.func 116) [] [])) [v9,v10]) fun v11 H4 =>
 gQ v8 false (zaf 23 24 0 v11) fun v12 =>
 ak (zal v8 v12) fun v13 =>
 br (some v13) (
 Q (.tup [(.v (.pointer none)),(.v (.bool false))]) H4) (
 ak (zcc x4) fun v14 =>
 ak (zad 198 v14 0) fun v15 =>
 ak (zab H4 90 v15) fun v16 =>
 ak (zab H4 50 v4) fun v17 =>
 aO (zcg H4 dep 33 90 1 0 v17) fun v18 H5 =>
 aO (zbq H5 dep 34 90 90 v16 v18) fun v19 H6 =>
 ak (zcc x4) fun v20 =>
 ak (zad 198 v20 0) fun v21 =>
 aO (zam H6 90 v21 v19) fun v22 H7 =>
 ak (zad 50 v4 0) fun v23 =>
 ak (zab H7 5 v23) fun v24 =>
 ak (zbk 5 38 v24) fun v25 =>
 br (some v25) (
 ak (zad 50 v4 3) fun v26 =>
 ak (zab H7 47 v26) fun v27 =>
 aO (zbl dep H7 42 v27) fun v28 H8 =>
 ak (
  aJ env.P false (ab.get H8) (⟨(dep+1),43,ab.gen H8 (dep+1) 43,0⟩:Ref) .len #[166] [v28]) fun v29 =>
  bT env Tryz.f114 (dep+1) nT [(44,(.v (.int .i64 0))),(4,x4),(42,v28),(12,x12),(13,x13),(14,x14),(43,v29)] H8 Q) (
 ak (
  aE env.P .add 3 (Operand.tmp 14) (Operand.const (Value.int IntKind.i64 1)) (some x14) (some (AV.v (Value.int IntKind.i64 1)))) fun v26 =>
  bT env Tryz.f114 (dep+1) lH [(4,x4),(14,v26),(12,x12),(13,x13)] H7 Q))) (
 Q (.tup [x4,(.v (.bool true))]) H)
theorem Aw(dep:Nat)(x4 x14 x12 x13:AV)(H:ab)(Q:AV→ab→Prop)(h : ∀g,rP dep g x4 x14 x12 x13 H Q):bT env Tryz.f114 (dep+1) lH [(4,x4),(14,x14),(12,x12),(13,x13)] H Q:=dx fun g=>aX (live:=zX) (cut:=Ai) (n:=500) (Eq.mp (by kernel_rfl) (h g))
def tZ(dep:Nat)(g:Nat→AV)(x44 x4 x42 x12 x13 x14 x43:AV)(H:ab)(Q:AV→ab→Prop):Prop :=
 ak (zao 3 44 43 x44 x43) fun v1 =>
 br (some v1) (
 ak (zau H 166 x42 x44) fun v2 =>
 ak (zab H 45 v2) fun v3 =>
 aO (zaq H dep 8 45) fun v4 H1 =>
 aO (zam H1 45 v4 v3) fun v5 H2 =>
 ak (zcc x4) fun v6 =>
 ak (zad 198 v6 1) fun v7 =>
 ak (zab H2 196 v7) fun v8 =>
 ak (zab H2 45 v4) fun v9 =>
 aO (dO env.P H2 196 (some v8) (some v9) (some (AV.v (Value.bool true)))) fun v10 H3 =>
 ak (zae 3 44 1 x44) fun v11 =>
  bT env Tryz.f114 (dep+1) nT [(44,v11),(4,x4),(42,x42),(12,x12),(13,x13),(14,x14),(43,x43)] H3 Q) (
 ak (zae 3 14 1 x14) fun v2 =>
  bT env Tryz.f114 (dep+1) lH [(4,x4),(14,v2),(12,x12),(13,x13)] H Q)
theorem xZ(dep:Nat)(x44 x4 x42 x12 x13 x14 x43:AV)(H:ab)(Q:AV→ab→Prop)(h : ∀g,tZ dep g x44 x4 x42 x12 x13 x14 x43 H Q):bT env Tryz.f114 (dep+1) nT [(44,x44),(4,x4),(42,x42),(12,x12),(13,x13),(14,x14),(43,x43)] H Q:=dx fun g=>aX (live:=zX) (cut:=Ai) (n:=500) (Eq.mp (by kernel_rfl) (h g))
noncomputable def iT:Code:=(Tryz.f116.body).getD .skip
def ny:Nat→Option (List Nat):=fun i=>none
def nD:Nat→Bool:=fun i=>false
def ef(dep:Nat)(g:Nat→AV)(x0 x1:AV)(H:ab)(Q:AV→ab→Prop):Prop :=
 aO (zak H dep 3 50 x1) fun v1 H1 =>
 ak (cK env.P 206 (some [(1,(.fn (.func 133) [] [])),(2,(.fn (.func 134) [] [])),(3,(.fn (.func 135) [] []))])) fun v2 =>
 ak (zad 50 v1 0) fun v3 =>
 ak (zab H1 5 v3) fun v4 =>
 ak (nL env.P 206 (some v2) (some v4)) fun v5 =>
 ak (zab H1 50 v1) fun v6 =>
 aO (zbr dep H1 12 v5 x0 v6) fun v7 H2 =>
 ak (zai 23 13 0 v7) fun v8 =>
 gQ v8 true (zbj x0) fun v9 =>
 gQ v8 true (zcc v9) fun v10 =>
 gQ v8 true (zad 198 v10 0) fun v11 =>
 gQ v8 true (zab H2 90 v11) fun v12 =>
 gQ v8 true (zbc H2 dep 20 90 v12) fun v13 =>
 gQ v8 true (zan 3 20 2048 v13) fun v14 =>
 ak (zag v8 v14) fun v15 =>
 br (some v15) (
 Q (.v (.int .i64 4)) H2) (
 Q v7 H2)
theorem nk(dep:Nat)(x0 x1:AV)(H:ab)(Q:AV→ab→Prop)(h : ∀g,ef dep g x0 x1 H Q):bT env Tryz.f116 (dep+1) [.code iT] [(0,x0),(1,x1)] H Q:=⟨fun g=>aX (live:=ny) (cut:=nD) (n:=500) (Eq.mp (by kernel_rfl) (h g))⟩
noncomputable def tP:Code:=(Tryz.f130.body).getD .skip
noncomputable def lI:List Item:=(b7 2 400 [.code tP]).getD []
def yR:Nat→Option (List Nat):=fun i=>cond (Nat.beq i 2) (some [8,2,1,7]) (none)
def zh:Nat→Bool:=fun i=>false
def zt(g:Nat→AV)(x0:AV)(H:ab)(Q:AV→ab→Prop):Prop :=
 aO (zac H 1 47 x0) fun v1 H1 =>
 ak (zad 47 v1 1) fun v2 =>
 ak (zab H1 3 v2) fun v3 =>
  bT env Tryz.f130 0 lI [(8,(.v (.int .i64 0))),(2,(.v (.slice none 0 0))),(1,v1),(7,v3)] H1 Q
theorem Fg(x0:AV)(H:ab)(Q:AV→ab→Prop)(h : ∀g,zt g x0 H Q):bT env Tryz.f130 0 [.code tP] [(0,x0)] H Q:=⟨fun g=>aX (live:=yR) (cut:=zh) (n:=500) (Eq.mp (by kernel_rfl) (h g))⟩
def ot(g:Nat→AV)(x8 x2 x1 x7:AV)(H:ab)(Q:AV→ab→Prop):Prop :=
 ak (zao 3 8 7 x8 x7) fun v1 =>
 br (some v1) (
 ak (zab H 47 x1) fun v2 =>
 aO (zaa true H 14 145 [v2,x8]) fun v3 H1 =>
 ak (zbb v3 0) fun v4 =>
 ak (zbb v3 1) fun v5 =>
 aO (zaj H1 4 45) fun v6 H2 =>
 aO (zam H2 45 v6 v4) fun v7 H3 =>
 ak (zab H3 45 v6) fun v8 =>
 aO (zax H3 19 166 1 0 v8) fun v9 H4 =>
 aO (zat H4 20 166 166 x2 v9) fun v10 H5 =>
 ak (zae 3 8 1 x8) fun v11 =>
  bT env Tryz.f130 0 lI [(8,v11),(2,v10),(1,x1),(7,x7)] H5 Q) (
 Q x2 H)
theorem uQ(x8 x2 x1 x7:AV)(H:ab)(Q:AV→ab→Prop)(h : ∀g,ot g x8 x2 x1 x7 H Q):bT env Tryz.f130 0 lI [(8,x8),(2,x2),(1,x1),(7,x7)] H Q:=dx fun g=>aX (live:=yR) (cut:=zh) (n:=500) (Eq.mp (by kernel_rfl) (h g))
noncomputable def ir:Code:=(Tryz.f133.body).getD .skip
def mv:Nat→Option (List Nat):=fun i=>none
def mD:Nat→Bool:=fun i=>false
def dW(dep:Nat)(g:Nat→AV)(x0 x1:AV)(H:ab)(Q:AV→ab→Prop):Prop :=
 aO (zak H dep 2 179 x0) fun v1 H1 =>
 aO (zak H1 dep 3 50 x1) fun v2 H2 =>
 ak (zad 50 v2 4) fun v3 =>
 ak (zab H2 45 v3) fun v4 =>
 ak (zch 45) fun v5 =>
 ak (zaz 45 8 9 v4 v5) fun v6 =>
 gQ v6 true (zab H2 179 v1) fun v7 =>
 gQ v6 true (zab H2 50 v2) fun v8 =>
 gQ v6 true (zad 50 v2 4) fun v9 =>
 gQ v6 true (zab H2 45 v9) fun v10 =>
 gW v6 true H2 (zbz dep H2 16 v7 v8 v10) fun v11 H3 =>
 gQ v6 true (zbg v11) fun v12 =>
 ak (zag v6 v12) fun v13 =>
 br (some v13) (
 Q (.v (.int .i64 6)) H3) (
 ak (zab H3 50 v2) fun v14 =>
 aO (bo env true (bj env) (bV env (dep+1)) H3 (⟨(dep+1),21,ab.gen H3 (dep+1) 21,0⟩:Ref) (some (.fn (.func 155) [] [])) [v14]) fun v15 H4 =>
 ak (zbb v15 0) fun v16 =>
 ak (zbb v15 1) fun v17 =>
 aO (zaq H4 dep 5 171) fun v18 H5 =>
 aO (zam H5 171 v18 v16) fun v19 H6 =>
 ak (zaf 23 24 0 v17) fun v20 =>
 gQ v20 false (zad 50 v2 3) fun v21 =>
 gQ v20 false (zab H6 47 v21) fun v22 =>
 gW v20 false H6 (zbl dep H6 29 v22) fun v23 H7 =>
 gQ v20 false (sG (.func 157) (some []) (some [v1])) fun v24 =>
 gW v20 false H7 (zca dep H7 31 v23 v24) fun v25 H8 =>
 ak (zal v20 v25) fun v26 =>
 br (some v26) (
 Q (.v (.int .i64 2)) H8) (
 ak (zab H8 179 v1) fun v27 =>
 ak (zcc v27) fun v28 =>
 ak (zad 198 v28 1) fun v29 =>
 ak (zab H8 196 v29) fun v30 =>
 ak (zbc H8 dep 37 196 v30) fun v31 =>
 ak (zad 50 v2 3) fun v32 =>
 ak (zad 47 v32 1) fun v33 =>
 ak (zab H8 3 v33) fun v34 =>
 ak (zbd 3 37 40 v31 v34) fun v35 =>
 ak (zar 3 41 8192 v35) fun v36 =>
 br (some v36) (
 Q (.v (.int .i64 4)) H8) (
 Q (.v (.int .i64 0)) H8)))
theorem mm(dep:Nat)(x0 x1:AV)(H:ab)(Q:AV→ab→Prop)(h : ∀g,dW dep g x0 x1 H Q):bT env Tryz.f133 (dep+1) [.code ir] [(0,x0),(1,x1)] H Q:=⟨fun g=>aX (live:=mv) (cut:=mD) (n:=500) (Eq.mp (by kernel_rfl) (h g))⟩
noncomputable def iq:Code:=(Tryz.f134.body).getD .skip
def mu:Nat→Option (List Nat):=fun i=>none
def mC:Nat→Bool:=fun i=>false
def iv(dep:Nat)(g:Nat→AV)(x0 x1:AV)(H:ab)(Q:AV→ab→Prop):Prop :=
 aO (zak H dep 3 50 x1) fun v1 H1 =>
 ak (zab H1 50 v1) fun v2 =>
 aO (zcd dep H1 8 x0 v2) fun v3 H2 =>
 ak (zbg v3) fun v4 =>
 br (some v4) (
 Q (.v (.int .i64 6)) H2) (
 ak (zad 50 v1 3) fun v5 =>
 ak (zad 47 v5 0) fun v6 =>
 ak (zad 45 v6 0) fun v7 =>
 ak (zad 40 v7 0) fun v8 =>
 ak (zab H2 35 v8) fun v9 =>
 ak (zad 50 v1 1) fun v10 =>
 ak (zad 40 v10 0) fun v11 =>
 ak (zab H2 35 v11) fun v12 =>
 ak (zaz 35 15 18 v9 v12) fun v13 =>
 br (some v13) (
 Q (.v (.int .i64 2)) H2) (
 Q (.v (.int .i64 0)) H2))
theorem mj(dep:Nat)(x0 x1:AV)(H:ab)(Q:AV→ab→Prop)(h : ∀g,iv dep g x0 x1 H Q):bT env Tryz.f134 (dep+1) [.code iq] [(0,x0),(1,x1)] H Q:=⟨fun g=>aX (live:=mu) (cut:=mC) (n:=500) (Eq.mp (by kernel_rfl) (h g))⟩
noncomputable def iH:Code:=(Tryz.f135.body).getD .skip
def mU:Nat→Option (List Nat):=fun i=>none
def mW:Nat→Bool:=fun i=>false
def iJ(dep:Nat)(g:Nat→AV)(x0 x1:AV)(H:ab)(Q:AV→ab→Prop):Prop :=
 aO (zak H dep 3 50 x1) fun v1 H1 =>
 ak (zab H1 50 v1) fun v2 =>
 aO (zcd dep H1 9 x0 v2) fun v3 H2 =>
 ak (zbg v3) fun v4 =>
 br (some v4) (
 Q (.v (.int .i64 6)) H2) (
 ak (zcc x0) fun v5 =>
 ak (zad 198 v5 0) fun v6 =>
 ak (zab H2 90 v6) fun v7 =>
 ak (zab H2 50 v1) fun v8 =>
 aO (bo env false (bj env) (bV env (dep+1)) H2 (⟨(dep+1),17,ab.gen H2 (dep+1) 17,0⟩:Ref) (some (.fn (.func 159) [] [])) [v7,v8]) fun v9 H3 =>
 ak (zbb v9 0) fun v10 =>
 ak (zbb v9 1) fun v11 =>
 ak (zaf 23 20 0 v11) fun v12 =>
 gQ v12 false (zbj v10) fun v13 =>
 gQ v12 false (zbg v13) fun v14 =>
 ak (zal v12 v14) fun v15 =>
 br (some v15) (
 Q (.v (.int .i64 2)) H3) (
 Q (.v (.int .i64 0)) H3))
theorem mQ(dep:Nat)(x0 x1:AV)(H:ab)(Q:AV→ab→Prop)(h : ∀g,iJ dep g x0 x1 H Q):bT env Tryz.f135 (dep+1) [.code iH] [(0,x0),(1,x1)] H Q:=⟨fun g=>aX (live:=mU) (cut:=mW) (n:=500) (Eq.mp (by kernel_rfl) (h g))⟩
noncomputable def iS:Code:=(Tryz.f154.body).getD .skip
def nw:Nat→Option (List Nat):=fun i=>none
def nC:Nat→Bool:=fun i=>false
def fg(dep:Nat)(g:Nat→AV)(x0 x1 x2:AV)(H:ab)(Q:AV→ab→Prop):Prop :=
 aO (zak H dep 4 50 x1) fun v1 H1 =>
 aO (zak H1 dep 5 45 x2) fun v2 H2 =>
 ak (zcc x0) fun v3 =>
 ak (zad 198 v3 1) fun v4 =>
 ak (zab H2 196 v4) fun v5 =>
 ak (zab H2 45 v2) fun v6 =>
 ak (zbi H2 196 v5 v6) fun v7 =>
 gQ v7 true (zad 45 v2 0) fun v8 =>
 gQ v7 true (zad 40 v8 0) fun v9 =>
 gQ v7 true (zab H2 35 v9) fun v10 =>
 gQ v7 true (zad 50 v1 1) fun v11 =>
 gQ v7 true (zad 40 v11 0) fun v12 =>
 gQ v7 true (zab H2 35 v12) fun v13 =>
 gW v7 true H2 (bo env false (bj env) (bV env (dep+1)) H2 (⟨(dep+1),20,ab.gen H2 (dep+1) 20,0⟩:Ref) (some (.fn (.func 20) [] [])) [v10,v13]) fun v14 H3 =>
 ak (zag v7 v14) fun v15 =>
 Q v15 H3
theorem nj(dep:Nat)(x0 x1 x2:AV)(H:ab)(Q:AV→ab→Prop)(h : ∀g,fg dep g x0 x1 x2 H Q):bT env Tryz.f154 (dep+1) [.code iS] [(0,x0),(1,x1),(2,x2)] H Q:=⟨fun g=>aX (live:=nw) (cut:=nC) (n:=500) (Eq.mp (by kernel_rfl) (h g))⟩
noncomputable def dA:Code:=(Tryz.f156.body).getD .skip
def fD:Nat→Option (List Nat):=fun i=>none
def fE:Nat→Bool:=fun i=>false
def dB(dep:Nat)(g:Nat→AV)(x0 x1:AV)(H:ab)(Q:AV→ab→Prop):Prop :=
 aO (bo env true (bj env) (bV env (dep+1)) H (⟨(dep+1),7,ab.gen H (dep+1) 7,0⟩:Ref) (some (.fn (.func 166) [] [])) [x0,x1]) fun v1 H1 =>
 ak (zan 3 7 0 v1) fun v2 =>
 Q v2 H1
theorem fC(dep:Nat)(x0 x1:AV)(H:ab)(Q:AV→ab→Prop)(h : ∀g,dB dep g x0 x1 H Q):bT env Tryz.f156 (dep+1) [.code dA] [(0,x0),(1,x1)] H Q:=⟨fun g=>aX (live:=fD) (cut:=fE) (n:=500) (Eq.mp (by kernel_rfl) (h g))⟩
noncomputable def gO:Code:=(Tryz.f157.body).getD .skip
def lP:Nat→Option (List Nat):=fun i=>none
def lV:Nat→Bool:=fun i=>false
def gS(dep:Nat)(g:Nat→AV)(x0 x1:AV)(H:ab)(Q:AV→ab→Prop):Prop :=
 aO (zak H dep 2 45 x0) fun v1 H1 =>
 ak (zab H1 179 x1) fun v2 =>
 ak (zcc v2) fun v3 =>
 ak (zad 198 v3 1) fun v4 =>
 ak (zab H1 196 v4) fun v5 =>
 ak (zab H1 45 v1) fun v6 =>
 ak (zbi H1 196 v5 v6) fun v7 =>
 Q v7 H1
theorem lM(dep:Nat)(x0 x1:AV)(H:ab)(Q:AV→ab→Prop)(h : ∀g,gS dep g x0 x1 H Q):bT env Tryz.f157 (dep+1) [.code gO] [(0,x0),(1,x1)] H Q:=⟨fun g=>aX (live:=lP) (cut:=lV) (n:=500) (Eq.mp (by kernel_rfl) (h g))⟩
noncomputable def jn:Code:=(Tryz.f158.body).getD .skip
def nO:Nat→Option (List Nat):=fun i=>none
def nX:Nat→Bool:=fun i=>false
def jq(dep:Nat)(g:Nat→AV)(x0 x1:AV)(H:ab)(Q:AV→ab→Prop):Prop :=
 aO (zak H dep 2 179 x0) fun v1 H1 =>
 aO (zak H1 dep 3 50 x1) fun v2 H2 =>
 ak (zad 50 v2 3) fun v3 =>
 ak (zab H2 47 v3) fun v4 =>
 aO (zbl dep H2 7 v4) fun v5 H3 =>
 ak (sG (.func 167) (some []) (some [v1,v2])) fun v6 =>
 aO (zca dep H3 9 v5 v6) fun v7 H4 =>
 ak (zbg v7) fun v8 =>
 Q v8 H4
theorem nG(dep:Nat)(x0 x1:AV)(H:ab)(Q:AV→ab→Prop)(h : ∀g,jq dep g x0 x1 H Q):bT env Tryz.f158 (dep+1) [.code jn] [(0,x0),(1,x1)] H Q:=⟨fun g=>aX (live:=nO) (cut:=nX) (n:=500) (Eq.mp (by kernel_rfl) (h g))⟩
noncomputable def cr:Code:=(Tryz.f166.body).getD .skip
noncomputable def bI:List Item:=(b7 2 400 [.code cr]).getD []
def dP:Nat→Option (List Nat):=fun i=>cond (Nat.beq i 2) (some [8,0,1,7]) (none)
def dQ:Nat→Bool:=fun i=>false
def dR(dep:Nat)(g:Nat→AV)(x0 x1:AV)(H:ab)(Q:AV→ab→Prop):Prop :=
 ak (zbc H dep 7 166 x0) fun v1 =>
  bT env Tryz.f166 (dep+1) bI [(8,(.v (.int .i64 0))),(0,x0),(1,x1),(7,v1)] H Q
theorem fY(dep:Nat)(x0 x1:AV)(H:ab)(Q:AV→ab→Prop)(h : ∀g,dR dep g x0 x1 H Q):bT env Tryz.f166 (dep+1) [.code cr] [(0,x0),(1,x1)] H Q:=⟨fun g=>aX (live:=dP) (cut:=dQ) (n:=500) (Eq.mp (by kernel_rfl) (h g))⟩
def cf(dep:Nat)(g:Nat→AV)(x8 x0 x1 x7:AV)(H:ab)(Q:AV→ab→Prop):Prop :=
 ak (zao 3 8 7 x8 x7) fun v1 =>
 br (some v1) (
 ak (zau H 166 x0 x8) fun v2 =>
 ak (zab H 45 v2) fun v3 =>
 aO (zbs dep H 16 x1 v3) fun v4 H1 =>
 br (some v4) (
 Q x8 H1) (
 ak (zae 3 8 1 x8) fun v5 =>
  bT env Tryz.f166 (dep+1) bI [(8,v5),(0,x0),(1,x1),(7,x7)] H1 Q)) (
 Q (.v (.int .i64 (-1))) H)
theorem dC(dep:Nat)(x8 x0 x1 x7:AV)(H:ab)(Q:AV→ab→Prop)(h : ∀g,cf dep g x8 x0 x1 x7 H Q):bT env Tryz.f166 (dep+1) bI [(8,x8),(0,x0),(1,x1),(7,x7)] H Q:=dx fun g=>aX (live:=dP) (cut:=dQ) (n:=500) (Eq.mp (by kernel_rfl) (h g))
noncomputable def iI:Code:=(Tryz.f167.body).getD .skip
def mV:Nat→Option (List Nat):=fun i=>none
def mX:Nat→Bool:=fun i=>false
def iK(dep:Nat)(g:Nat→AV)(x0 x1 x2:AV)(H:ab)(Q:AV→ab→Prop):Prop :=
 aO (zak H dep 3 45 x0) fun v1 H1 =>
 ak (zab H1 179 x1) fun v2 =>
 ak (zab H1 50 x2) fun v3 =>
 ak (zab H1 45 v1) fun v4 =>
 aO (zbz dep H1 8 v2 v3 v4) fun v5 H2 =>
 ak (zbg v5) fun v6 =>
 Q v6 H2
theorem mR(dep:Nat)(x0 x1 x2:AV)(H:ab)(Q:AV→ab→Prop)(h : ∀g,iK dep g x0 x1 x2 H Q):bT env Tryz.f167 (dep+1) [.code iI] [(0,x0),(1,x1),(2,x2)] H Q:=⟨fun g=>aX (live:=mV) (cut:=mX) (n:=500) (Eq.mp (by kernel_rfl) (h g))⟩
end Go.Proofs.YtdbiffjdomokfaaGreat
