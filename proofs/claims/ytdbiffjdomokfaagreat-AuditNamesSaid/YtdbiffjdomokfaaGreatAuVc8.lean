/-
  What is to be shown of each function, computed from its code. No statement of a seat is proved here.
-/
import Derived.Test.YtdbiffjdomokfaaGreatAuTy
set_option linter.unusedVariables false
set_option maxRecDepth 1000000
namespace Go.Proofs.YtdbiffjdomokfaaGreat
open Go.Ab
noncomputable def zi:Code:=(Tryz.f94.body).getD .skip
def FK:Nat→Option (List Nat):=fun i=>none
def Gk:Nat→Bool:=fun i=>false
def qI(g:Nat→AV)(x0 x1:AV)(H:ab)(Q:AV→ab→Prop):Prop :=
 aN (Zc H 3 50 x1) fun v1 H1 =>
 aN (Za true H1 10 114 [x0]) fun v2 H2 =>
 ak (ZB v2 0) fun v3 =>
 ak (ZB v2 1) fun v4 =>
 ak (ZH v4) fun v5 =>
 br (some v5) (
 Q (.v (.int .i64 8)) H2) (
 ak (Zb H2 50 v1) fun v6 =>
 aN (Za true H2 16 115 [v6]) fun v7 H3 =>
 ak (Zf 23 17 0 v7) fun v8 =>
 br (some v8) (
 Q v7 H3) (
 ak (Zb H3 50 v1) fun v9 =>
 aN (Za true H3 22 116 [v3,v9]) fun v10 H4 =>
 Q v10 H4))
theorem EO(x0 x1:AV)(H:ab)(Q:AV→ab→Prop)(h : ∀g,qI g x0 x1 H Q):bW env Tryz.f94 0 [.code zi] [(0,x0),(1,x1)] H Q:=⟨fun g=>aY (live:=FK) (cut:=Gk) (n:=500) (Eq.mp (by kernel_rfl) (h g))⟩
noncomputable def uP:Code:=(Tryz.f114.body).getD .skip
noncomputable def kL:List Item:=(cg 3 400 [.code uP]).getD []
noncomputable def m0:List Item:=(cg 10 400 [.code uP]).getD []
def yz:Nat→Option (List Nat):=fun i=>cond (Nat.beq i 3) (some [4,14,12,13]) (cond (Nat.beq i 10) (some [44,4,42,12,13,14,43]) (none))
def yM:Nat→Bool:=fun i=>false
def Dn(dep:Nat)(g:Nat→AV)(x0:AV)(H:ab)(Q:AV→ab→Prop):Prop :=
 aN (ZL H dep 9) fun v1 H1 =>
 ak (Y3 198 1 v1) fun v2 =>
 aN (Zj H1 dep 11 198 v2) fun v3 H2 =>
 ak (ZA H2 dep 13 90 x0) fun v4 =>
  bW env Tryz.f114 (dep+1) kL [(4,v3),(14,(.v (.int .i64 0))),(12,x0),(13,v4)] H2 Q
theorem I2(dep:Nat)(x0:AV)(H:ab)(Q:AV→ab→Prop)(h : ∀g,Dn dep g x0 H Q):bW env Tryz.f114 (dep+1) [.code uP] [(0,x0)] H Q:=⟨fun g=>aY (live:=yz) (cut:=yM) (n:=500) (Eq.mp (by kernel_rfl) (h g))⟩
def qH(dep:Nat)(g:Nat→AV)(x4 x14 x12 x13:AV)(H:ab)(Q:AV→ab→Prop):Prop :=
 ak (Zo 3 14 13 x14 x13) fun v1 =>
 br (some v1) (
 ak (Zw H 90 x12 x14) fun v2 =>
 ak (Zb H 50 v2) fun v3 =>
 aN (Zq H dep 6 50) fun v4 H1 =>
 aN (Zl H1 50 v4 v3) fun v5 H2 =>
 ak (Zb H2 50 v4) fun v6 =>
 aN (bm env true (bj env) (bR env (dep+1)) H2 (⟨(dep+1),19,ab.gen H2 (dep+1) 19,0⟩:Ref) (some (.fn (.func 115) [] [])) [v6]) fun v7 H3 =>
 ak (Zf 23 19 0 v7) fun v8 =>
 gQ v8 false (ZN x4) fun v9 =>
 gQ v8 false (Zb H3 50 v4) fun v10 =>
 gW v8 false H3 (bm env true (bj env) (bR env (dep+1)) H3 (⟨(dep+1),24,ab.gen H3 (dep+1) 24,0⟩:Ref) (some (.fn (.func 116) [] [])) [v9,v10]) fun v11 H4 =>
 gQ v8 false (Zf 23 24 0 v11) fun v12 =>
 ak (Zn v8 v12) fun v13 =>
 br (some v13) (
 Q (.tup [(.v (.pointer none)),(.v (.bool false))]) H4) (
 ak (Z3 x4) fun v14 =>
 ak (Zd 198 v14 0) fun v15 =>
 ak (Zb H4 90 v15) fun v16 =>
 ak (Zb H4 50 v4) fun v17 =>
 aN (Z7 H4 dep 33 90 1 0 v17) fun v18 H5 =>
 aN (ZQ H5 dep 34 90 90 v16 v18) fun v19 H6 =>
 ak (Z3 x4) fun v20 =>
 ak (Zd 198 v20 0) fun v21 =>
 aN (Zl H6 90 v21 v19) fun v22 H7 =>
 ak (Zd 50 v4 0) fun v23 =>
 ak (Zb H7 5 v23) fun v24 =>
 ak (ZJ 5 38 v24) fun v25 =>
 br (some v25) (
 ak (Zd 50 v4 3) fun v26 =>
 ak (Zb H7 47 v26) fun v27 =>
 aN (ZK dep H7 42 v27) fun v28 H8 =>
 ak (
  aM env.P false (ab.get H8) (⟨(dep+1),43,ab.gen H8 (dep+1) 43,0⟩:Ref) .len #[166] [v28]) fun v29 =>
  bW env Tryz.f114 (dep+1) m0 [(44,(.v (.int .i64 0))),(4,x4),(42,v28),(12,x12),(13,x13),(14,x14),(43,v29)] H8 Q) (
 ak (
  aE env.P .add 3 (Operand.tmp 14) (Operand.const (Value.int IntKind.i64 1)) (some x14) (some (AV.v (Value.int IntKind.i64 1)))) fun v26 =>
  bW env Tryz.f114 (dep+1) kL [(4,x4),(14,v26),(12,x12),(13,x13)] H7 Q))) (
 Q (.tup [x4,(.v (.bool true))]) H)
theorem yY(dep:Nat)(x4 x14 x12 x13:AV)(H:ab)(Q:AV→ab→Prop)(h : ∀g,qH dep g x4 x14 x12 x13 H Q):bW env Tryz.f114 (dep+1) kL [(4,x4),(14,x14),(12,x12),(13,x13)] H Q:=dG fun g=>aY (live:=yz) (cut:=yM) (n:=500) (Eq.mp (by kernel_rfl) (h g))
def sF(dep:Nat)(g:Nat→AV)(x44 x4 x42 x12 x13 x14 x43:AV)(H:ab)(Q:AV→ab→Prop):Prop :=
 ak (Zo 3 44 43 x44 x43) fun v1 =>
 br (some v1) (
 ak (Zw H 166 x42 x44) fun v2 =>
 ak (Zb H 45 v2) fun v3 =>
 aN (Zq H dep 8 45) fun v4 H1 =>
 aN (Zl H1 45 v4 v3) fun v5 H2 =>
 ak (Z3 x4) fun v6 =>
 ak (Zd 198 v6 1) fun v7 =>
 ak (Zb H2 196 v7) fun v8 =>
 ak (Zb H2 45 v4) fun v9 =>
 aN (dE env.P H2 196 (some v8) (some v9) (some (AV.v (Value.bool true)))) fun v10 H3 =>
 ak (Ze 3 44 1 x44) fun v11 =>
  bW env Tryz.f114 (dep+1) m0 [(44,v11),(4,x4),(42,x42),(12,x12),(13,x13),(14,x14),(43,x43)] H3 Q) (
 ak (Ze 3 14 1 x14) fun v2 =>
  bW env Tryz.f114 (dep+1) kL [(4,x4),(14,v2),(12,x12),(13,x13)] H Q)
theorem wy(dep:Nat)(x44 x4 x42 x12 x13 x14 x43:AV)(H:ab)(Q:AV→ab→Prop)(h : ∀g,sF dep g x44 x4 x42 x12 x13 x14 x43 H Q):bW env Tryz.f114 (dep+1) m0 [(44,x44),(4,x4),(42,x42),(12,x12),(13,x13),(14,x14),(43,x43)] H Q:=dG fun g=>aY (live:=yz) (cut:=yM) (n:=500) (Eq.mp (by kernel_rfl) (h g))
noncomputable def iD:Code:=(Tryz.f116.body).getD .skip
def mH:Nat→Option (List Nat):=fun i=>none
def mM:Nat→Bool:=fun i=>false
def dS(dep:Nat)(g:Nat→AV)(x0 x1:AV)(H:ab)(Q:AV→ab→Prop):Prop :=
 aN (Zj H dep 3 50 x1) fun v1 H1 =>
 ak (cb env.P 206 (some [(1,(.fn (.func 133) [] [])),(2,(.fn (.func 134) [] [])),(3,(.fn (.func 135) [] []))])) fun v2 =>
 ak (Zd 50 v1 0) fun v3 =>
 ak (Zb H1 5 v3) fun v4 =>
 ak (mU env.P 206 (some v2) (some v4)) fun v5 =>
 ak (Zb H1 50 v1) fun v6 =>
 aN (ZR dep H1 12 v5 x0 v6) fun v7 H2 =>
 ak (Zg 23 13 0 v7) fun v8 =>
 gQ v8 true (ZN x0) fun v9 =>
 gQ v8 true (Z3 v9) fun v10 =>
 gQ v8 true (Zd 198 v10 0) fun v11 =>
 gQ v8 true (Zb H2 90 v11) fun v12 =>
 gQ v8 true (ZA H2 dep 20 90 v12) fun v13 =>
 gQ v8 true (Zm 3 20 2048 v13) fun v14 =>
 ak (Zh v8 v14) fun v15 =>
 br (some v15) (
 Q (.v (.int .i64 4)) H2) (
 Q v7 H2)
theorem mC(dep:Nat)(x0 x1:AV)(H:ab)(Q:AV→ab→Prop)(h : ∀g,dS dep g x0 x1 H Q):bW env Tryz.f116 (dep+1) [.code iD] [(0,x0),(1,x1)] H Q:=⟨fun g=>aY (live:=mH) (cut:=mM) (n:=500) (Eq.mp (by kernel_rfl) (h g))⟩
noncomputable def sv:Code:=(Tryz.f130.body).getD .skip
noncomputable def kM:List Item:=(cg 2 400 [.code sv]).getD []
def xe:Nat→Option (List Nat):=fun i=>cond (Nat.beq i 2) (some [8,2,1,7]) (none)
def xE:Nat→Bool:=fun i=>false
def xR(g:Nat→AV)(x0:AV)(H:ab)(Q:AV→ab→Prop):Prop :=
 aN (Zc H 1 47 x0) fun v1 H1 =>
 ak (Zd 47 v1 1) fun v2 =>
 ak (Zb H1 3 v2) fun v3 =>
  bW env Tryz.f130 0 kM [(8,(.v (.int .i64 0))),(2,(.v (.slice none 0 0))),(1,v1),(7,v3)] H1 Q
theorem Dz(x0:AV)(H:ab)(Q:AV→ab→Prop)(h : ∀g,xR g x0 H Q):bW env Tryz.f130 0 [.code sv] [(0,x0)] H Q:=⟨fun g=>aY (live:=xe) (cut:=xE) (n:=500) (Eq.mp (by kernel_rfl) (h g))⟩
def nk(g:Nat→AV)(x8 x2 x1 x7:AV)(H:ab)(Q:AV→ab→Prop):Prop :=
 ak (Zo 3 8 7 x8 x7) fun v1 =>
 br (some v1) (
 ak (Zb H 47 x1) fun v2 =>
 aN (Za true H 14 145 [v2,x8]) fun v3 H1 =>
 ak (ZB v3 0) fun v4 =>
 ak (ZB v3 1) fun v5 =>
 aN (Zi H1 4 45) fun v6 H2 =>
 aN (Zl H2 45 v6 v4) fun v7 H3 =>
 ak (Zb H3 45 v6) fun v8 =>
 aN (Zx H3 19 166 1 0 v8) fun v9 H4 =>
 aN (Zr H4 20 166 166 x2 v9) fun v10 H5 =>
 ak (Ze 3 8 1 x8) fun v11 =>
  bW env Tryz.f130 0 kM [(8,v11),(2,v10),(1,x1),(7,x7)] H5 Q) (
 Q x2 H)
theorem tj(x8 x2 x1 x7:AV)(H:ab)(Q:AV→ab→Prop)(h : ∀g,nk g x8 x2 x1 x7 H Q):bW env Tryz.f130 0 kM [(8,x8),(2,x2),(1,x1),(7,x7)] H Q:=dG fun g=>aY (live:=xe) (cut:=xE) (n:=500) (Eq.mp (by kernel_rfl) (h g))
noncomputable def gU:Code:=(Tryz.f133.body).getD .skip
def lJ:Nat→Option (List Nat):=fun i=>none
def lN:Nat→Bool:=fun i=>false
def dP(dep:Nat)(g:Nat→AV)(x0 x1:AV)(H:ab)(Q:AV→ab→Prop):Prop :=
 aN (Zj H dep 2 179 x0) fun v1 H1 =>
 aN (Zj H1 dep 3 50 x1) fun v2 H2 =>
 ak (Zd 50 v2 4) fun v3 =>
 ak (Zb H2 45 v3) fun v4 =>
 ak (ZV 45) fun v5 =>
 ak (ZD 45 8 9 v4 v5) fun v6 =>
 gQ v6 true (Zb H2 179 v1) fun v7 =>
 gQ v6 true (Zb H2 50 v2) fun v8 =>
 gQ v6 true (Zd 50 v2 4) fun v9 =>
 gQ v6 true (Zb H2 45 v9) fun v10 =>
 gW v6 true H2 (Z0 dep H2 16 v7 v8 v10) fun v11 H3 =>
 gQ v6 true (ZH v11) fun v12 =>
 ak (Zh v6 v12) fun v13 =>
 br (some v13) (
 Q (.v (.int .i64 6)) H3) (
 ak (Zb H3 50 v2) fun v14 =>
 aN (bm env true (bj env) (bR env (dep+1)) H3 (⟨(dep+1),21,ab.gen H3 (dep+1) 21,0⟩:Ref) (some (.fn (.func 155) [] [])) [v14]) fun v15 H4 =>
 ak (ZB v15 0) fun v16 =>
 ak (ZB v15 1) fun v17 =>
 aN (Zq H4 dep 5 171) fun v18 H5 =>
 aN (Zl H5 171 v18 v16) fun v19 H6 =>
 ak (Zf 23 24 0 v17) fun v20 =>
 gQ v20 false (Zd 50 v2 3) fun v21 =>
 gQ v20 false (Zb H6 47 v21) fun v22 =>
 gW v20 false H6 (ZK dep H6 29 v22) fun v23 H7 =>
 gQ v20 false (rp (.func 157) (some []) (some [v1])) fun v24 =>
 gW v20 false H7 (Z1 dep H7 31 v23 v24) fun v25 H8 =>
 ak (Zn v20 v25) fun v26 =>
 br (some v26) (
 Q (.v (.int .i64 2)) H8) (
 ak (Zb H8 179 v1) fun v27 =>
 ak (Z3 v27) fun v28 =>
 ak (Zd 198 v28 1) fun v29 =>
 ak (Zb H8 196 v29) fun v30 =>
 ak (ZA H8 dep 37 196 v30) fun v31 =>
 ak (Zd 50 v2 3) fun v32 =>
 ak (Zd 47 v32 1) fun v33 =>
 ak (Zb H8 3 v33) fun v34 =>
 ak (ZC 3 37 40 v31 v34) fun v35 =>
 ak (Zt 3 41 8192 v35) fun v36 =>
 br (some v36) (
 Q (.v (.int .i64 4)) H8) (
 Q (.v (.int .i64 0)) H8)))
theorem lE(dep:Nat)(x0 x1:AV)(H:ab)(Q:AV→ab→Prop)(h : ∀g,dP dep g x0 x1 H Q):bW env Tryz.f133 (dep+1) [.code gU] [(0,x0),(1,x1)] H Q:=⟨fun g=>aY (live:=lJ) (cut:=lN) (n:=500) (Eq.mp (by kernel_rfl) (h g))⟩
noncomputable def gT:Code:=(Tryz.f134.body).getD .skip
def lI:Nat→Option (List Nat):=fun i=>none
def lM:Nat→Bool:=fun i=>false
def gX(dep:Nat)(g:Nat→AV)(x0 x1:AV)(H:ab)(Q:AV→ab→Prop):Prop :=
 aN (Zj H dep 3 50 x1) fun v1 H1 =>
 ak (Zb H1 50 v1) fun v2 =>
 aN (Z4 dep H1 8 x0 v2) fun v3 H2 =>
 ak (ZH v3) fun v4 =>
 br (some v4) (
 Q (.v (.int .i64 6)) H2) (
 ak (Zd 50 v1 3) fun v5 =>
 ak (Zd 47 v5 0) fun v6 =>
 ak (Zd 45 v6 0) fun v7 =>
 ak (Zd 40 v7 0) fun v8 =>
 ak (Zb H2 35 v8) fun v9 =>
 ak (Zd 50 v1 1) fun v10 =>
 ak (Zd 40 v10 0) fun v11 =>
 ak (Zb H2 35 v11) fun v12 =>
 ak (ZD 35 15 18 v9 v12) fun v13 =>
 br (some v13) (
 Q (.v (.int .i64 2)) H2) (
 Q (.v (.int .i64 0)) H2))
theorem lD(dep:Nat)(x0 x1:AV)(H:ab)(Q:AV→ab→Prop)(h : ∀g,gX dep g x0 x1 H Q):bW env Tryz.f134 (dep+1) [.code gT] [(0,x0),(1,x1)] H Q:=⟨fun g=>aY (live:=lI) (cut:=lM) (n:=500) (Eq.mp (by kernel_rfl) (h g))⟩
noncomputable def ik:Code:=(Tryz.f135.body).getD .skip
def ma:Nat→Option (List Nat):=fun i=>none
def md:Nat→Bool:=fun i=>false
def im(dep:Nat)(g:Nat→AV)(x0 x1:AV)(H:ab)(Q:AV→ab→Prop):Prop :=
 aN (Zj H dep 3 50 x1) fun v1 H1 =>
 ak (Zb H1 50 v1) fun v2 =>
 aN (Z4 dep H1 9 x0 v2) fun v3 H2 =>
 ak (ZH v3) fun v4 =>
 br (some v4) (
 Q (.v (.int .i64 6)) H2) (
 ak (Z3 x0) fun v5 =>
 ak (Zd 198 v5 0) fun v6 =>
 ak (Zb H2 90 v6) fun v7 =>
 ak (Zb H2 50 v1) fun v8 =>
 aN (bm env false (bj env) (bR env (dep+1)) H2 (⟨(dep+1),17,ab.gen H2 (dep+1) 17,0⟩:Ref) (some (.fn (.func 159) [] [])) [v7,v8]) fun v9 H3 =>
 ak (ZB v9 0) fun v10 =>
 ak (ZB v9 1) fun v11 =>
 ak (Zf 23 20 0 v11) fun v12 =>
 gQ v12 false (ZN v10) fun v13 =>
 gQ v12 false (ZH v13) fun v14 =>
 ak (Zn v12 v14) fun v15 =>
 br (some v15) (
 Q (.v (.int .i64 2)) H3) (
 Q (.v (.int .i64 0)) H3))
theorem lY(dep:Nat)(x0 x1:AV)(H:ab)(Q:AV→ab→Prop)(h : ∀g,im dep g x0 x1 H Q):bW env Tryz.f135 (dep+1) [.code ik] [(0,x0),(1,x1)] H Q:=⟨fun g=>aY (live:=ma) (cut:=md) (n:=500) (Eq.mp (by kernel_rfl) (h g))⟩
noncomputable def iC:Code:=(Tryz.f154.body).getD .skip
def mG:Nat→Option (List Nat):=fun i=>none
def mL:Nat→Bool:=fun i=>false
def eS(dep:Nat)(g:Nat→AV)(x0 x1 x2:AV)(H:ab)(Q:AV→ab→Prop):Prop :=
 aN (Zj H dep 4 50 x1) fun v1 H1 =>
 aN (Zj H1 dep 5 45 x2) fun v2 H2 =>
 ak (Z3 x0) fun v3 =>
 ak (Zd 198 v3 1) fun v4 =>
 ak (Zb H2 196 v4) fun v5 =>
 ak (Zb H2 45 v2) fun v6 =>
 ak (ZI H2 196 v5 v6) fun v7 =>
 gQ v7 true (Zd 45 v2 0) fun v8 =>
 gQ v7 true (Zd 40 v8 0) fun v9 =>
 gQ v7 true (Zb H2 35 v9) fun v10 =>
 gQ v7 true (Zd 50 v1 1) fun v11 =>
 gQ v7 true (Zd 40 v11 0) fun v12 =>
 gQ v7 true (Zb H2 35 v12) fun v13 =>
 gW v7 true H2 (bm env false (bj env) (bR env (dep+1)) H2 (⟨(dep+1),20,ab.gen H2 (dep+1) 20,0⟩:Ref) (some (.fn (.func 20) [] [])) [v10,v13]) fun v14 H3 =>
 ak (Zh v7 v14) fun v15 =>
 Q v15 H3
theorem mB(dep:Nat)(x0 x1 x2:AV)(H:ab)(Q:AV→ab→Prop)(h : ∀g,eS dep g x0 x1 x2 H Q):bW env Tryz.f154 (dep+1) [.code iC] [(0,x0),(1,x1),(2,x2)] H Q:=⟨fun g=>aY (live:=mG) (cut:=mL) (n:=500) (Eq.mp (by kernel_rfl) (h g))⟩
noncomputable def dn:Code:=(Tryz.f156.body).getD .skip
def fg:Nat→Option (List Nat):=fun i=>none
def fh:Nat→Bool:=fun i=>false
def dp(dep:Nat)(g:Nat→AV)(x0 x1:AV)(H:ab)(Q:AV→ab→Prop):Prop :=
 aN (bm env true (bj env) (bR env (dep+1)) H (⟨(dep+1),7,ab.gen H (dep+1) 7,0⟩:Ref) (some (.fn (.func 166) [] [])) [x0,x1]) fun v1 H1 =>
 ak (Zm 3 7 0 v1) fun v2 =>
 Q v2 H1
theorem ff(dep:Nat)(x0 x1:AV)(H:ab)(Q:AV→ab→Prop)(h : ∀g,dp dep g x0 x1 H Q):bW env Tryz.f156 (dep+1) [.code dn] [(0,x0),(1,x1)] H Q:=⟨fun g=>aY (live:=fg) (cut:=fh) (n:=500) (Eq.mp (by kernel_rfl) (h g))⟩
noncomputable def gm:Code:=(Tryz.f157.body).getD .skip
def kW:Nat→Option (List Nat):=fun i=>none
def k7:Nat→Bool:=fun i=>false
def gw(dep:Nat)(g:Nat→AV)(x0 x1:AV)(H:ab)(Q:AV→ab→Prop):Prop :=
 aN (Zj H dep 2 45 x0) fun v1 H1 =>
 ak (Zb H1 179 x1) fun v2 =>
 ak (Z3 v2) fun v3 =>
 ak (Zd 198 v3 1) fun v4 =>
 ak (Zb H1 196 v4) fun v5 =>
 ak (Zb H1 45 v1) fun v6 =>
 ak (ZI H1 196 v5 v6) fun v7 =>
 Q v7 H1
theorem kR(dep:Nat)(x0 x1:AV)(H:ab)(Q:AV→ab→Prop)(h : ∀g,gw dep g x0 x1 H Q):bW env Tryz.f157 (dep+1) [.code gm] [(0,x0),(1,x1)] H Q:=⟨fun g=>aY (live:=kW) (cut:=k7) (n:=500) (Eq.mp (by kernel_rfl) (h g))⟩
noncomputable def iX:Code:=(Tryz.f158.body).getD .skip
def mX:Nat→Option (List Nat):=fun i=>none
def m6:Nat→Bool:=fun i=>false
def iY(dep:Nat)(g:Nat→AV)(x0 x1:AV)(H:ab)(Q:AV→ab→Prop):Prop :=
 aN (Zj H dep 2 179 x0) fun v1 H1 =>
 aN (Zj H1 dep 3 50 x1) fun v2 H2 =>
 ak (Zd 50 v2 3) fun v3 =>
 ak (Zb H2 47 v3) fun v4 =>
 aN (ZK dep H2 7 v4) fun v5 H3 =>
 ak (rp (.func 167) (some []) (some [v1,v2])) fun v6 =>
 aN (Z1 dep H3 9 v5 v6) fun v7 H4 =>
 ak (ZH v7) fun v8 =>
 Q v8 H4
theorem mP(dep:Nat)(x0 x1:AV)(H:ab)(Q:AV→ab→Prop)(h : ∀g,iY dep g x0 x1 H Q):bW env Tryz.f158 (dep+1) [.code iX] [(0,x0),(1,x1)] H Q:=⟨fun g=>aY (live:=mX) (cut:=m6) (n:=500) (Eq.mp (by kernel_rfl) (h g))⟩
noncomputable def cf:Code:=(Tryz.f166.body).getD .skip
noncomputable def bC:List Item:=(cg 2 400 [.code cf]).getD []
def dF:Nat→Option (List Nat):=fun i=>cond (Nat.beq i 2) (some [8,0,1,7]) (none)
def dH:Nat→Bool:=fun i=>false
def dK(dep:Nat)(g:Nat→AV)(x0 x1:AV)(H:ab)(Q:AV→ab→Prop):Prop :=
 ak (ZA H dep 7 166 x0) fun v1 =>
  bW env Tryz.f166 (dep+1) bC [(8,(.v (.int .i64 0))),(0,x0),(1,x1),(7,v1)] H Q
theorem fH(dep:Nat)(x0 x1:AV)(H:ab)(Q:AV→ab→Prop)(h : ∀g,dK dep g x0 x1 H Q):bW env Tryz.f166 (dep+1) [.code cf] [(0,x0),(1,x1)] H Q:=⟨fun g=>aY (live:=dF) (cut:=dH) (n:=500) (Eq.mp (by kernel_rfl) (h g))⟩
def b8(dep:Nat)(g:Nat→AV)(x8 x0 x1 x7:AV)(H:ab)(Q:AV→ab→Prop):Prop :=
 ak (Zo 3 8 7 x8 x7) fun v1 =>
 br (some v1) (
 ak (Zw H 166 x0 x8) fun v2 =>
 ak (Zb H 45 v2) fun v3 =>
 aN (ZS dep H 16 x1 v3) fun v4 H1 =>
 br (some v4) (
 Q x8 H1) (
 ak (Ze 3 8 1 x8) fun v5 =>
  bW env Tryz.f166 (dep+1) bC [(8,v5),(0,x0),(1,x1),(7,x7)] H1 Q)) (
 Q (.v (.int .i64 (-1))) H)
theorem dt(dep:Nat)(x8 x0 x1 x7:AV)(H:ab)(Q:AV→ab→Prop)(h : ∀g,b8 dep g x8 x0 x1 x7 H Q):bW env Tryz.f166 (dep+1) bC [(8,x8),(0,x0),(1,x1),(7,x7)] H Q:=dG fun g=>aY (live:=dF) (cut:=dH) (n:=500) (Eq.mp (by kernel_rfl) (h g))
noncomputable def il:Code:=(Tryz.f167.body).getD .skip
def mb:Nat→Option (List Nat):=fun i=>none
def me:Nat→Bool:=fun i=>false
def iq(dep:Nat)(g:Nat→AV)(x0 x1 x2:AV)(H:ab)(Q:AV→ab→Prop):Prop :=
 aN (Zj H dep 3 45 x0) fun v1 H1 =>
 ak (Zb H1 179 x1) fun v2 =>
 ak (Zb H1 50 x2) fun v3 =>
 ak (Zb H1 45 v1) fun v4 =>
 aN (Z0 dep H1 8 v2 v3 v4) fun v5 H2 =>
 ak (ZH v5) fun v6 =>
 Q v6 H2
theorem lZ(dep:Nat)(x0 x1 x2:AV)(H:ab)(Q:AV→ab→Prop)(h : ∀g,iq dep g x0 x1 x2 H Q):bW env Tryz.f167 (dep+1) [.code il] [(0,x0),(1,x1),(2,x2)] H Q:=⟨fun g=>aY (live:=mb) (cut:=me) (n:=500) (Eq.mp (by kernel_rfl) (h g))⟩
end Go.Proofs.YtdbiffjdomokfaaGreat
