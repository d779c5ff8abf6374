/-
  What is to be shown of each function, computed from its code. No statement of a seat is proved here.
-/
import Derived.Test.YtdbiffjdomokfaaGreatAuTy
set_option linter.unusedVariables false
set_option maxRecDepth 1000000
namespace Go.Proofs.YtdbiffjdomokfaaGreat
open Go.Ab
noncomputable def ue:Code:=(Tryz.f21.body).getD .skip
def AW:Nat→Option (List Nat):=fun i=>none
def Br:Nat→Bool:=fun i=>false
def ur(g:Nat→AV)(x0 x1 x2:AV)(H:ab)(Q:AV→ab→Prop):Prop :=
 aN (Zc H 3 29 x0) fun v1 H1 =>
 aN (Zc H1 5 35 x2) fun v2 H2 =>
 ak (Zb H2 29 v1) fun v3 =>
 ak (Zb H2 35 v2) fun v4 =>
 aN (Za false H2 11 33 [v4]) fun v5 H3 =>
 ak (rp (.func 34) (some []) (some [v2])) fun v6 =>
 aN (Za true H3 13 32 [v3,x1,v5,v6]) fun v7 H4 =>
 ak (ZB v7 0) fun v8 =>
 ak (ZB v7 1) fun v9 =>
 Q (.tup [v8,v9]) H4
theorem Ad(x0 x1 x2:AV)(H:ab)(Q:AV→ab→Prop)(h : ∀g,ur g x0 x1 x2 H Q):bW env Tryz.f21 0 [.code ue] [(0,x0),(1,x1),(2,x2)] H Q:=⟨fun g=>aY (live:=AW) (cut:=Br) (n:=500) (Eq.mp (by kernel_rfl) (h g))⟩
noncomputable def fF:Code:=(Tryz.f32.body).getD .skip
def kf:Nat→Option (List Nat):=fun i=>none
def kr:Nat→Bool:=fun i=>false
def fG(dep:Nat)(g:Nat→AV)(x0 x1 x2 x3:AV)(H:ab)(Q:AV→ab→Prop):Prop :=
 aN (Zj H dep 4 29 x0) fun v1 H1 =>
 ak (Zb H1 29 v1) fun v2 =>
 aN (bm env true (bj env) (bR env (dep+1)) H1 (⟨(dep+1),15,ab.gen H1 (dep+1) 15,0⟩:Ref) (some (.fn (.func 35) [] [])) [v2,x1]) fun v3 H2 =>
 ak (ZB v3 0) fun v4 =>
 ak (ZB v3 1) fun v5 =>
 ak (ZH v5) fun v6 =>
 br (some v6) (
 Q (.tup [(.v (.slice none 0 0)),(.v (.int .i64 8))]) H2) (
 ak (Zf 23 21 0 x2) fun v7 =>
 br (some v7) (
 Q (.tup [(.v (.slice none 0 0)),x2]) H2) (
 aN (ZS dep H2 27 x3 v4) fun v8 H3 =>
 ak (ZB v8 0) fun v9 =>
 ak (ZB v8 1) fun v10 =>
 Q (.tup [v9,v10]) H3))
theorem j9(dep:Nat)(x0 x1 x2 x3:AV)(H:ab)(Q:AV→ab→Prop)(h : ∀g,fG dep g x0 x1 x2 x3 H Q):bW env Tryz.f32 (dep+1) [.code fF] [(0,x0),(1,x1),(2,x2),(3,x3)] H Q:=⟨fun g=>aY (live:=kf) (cut:=kr) (n:=500) (Eq.mp (by kernel_rfl) (h g))⟩
noncomputable def nU:Code:=(Tryz.f34.body).getD .skip
noncomputable def ig:List Item:=(cg 2 400 [.code nU]).getD []
def rB:Nat→Option (List Nat):=fun i=>cond (Nat.beq i 2) (some [12,3,1,10,11]) (none)
def rJ:Nat→Bool:=fun i=>false
def rS(dep:Nat)(g:Nat→AV)(x0 x1:AV)(H:ab)(Q:AV→ab→Prop):Prop :=
 ak (Z3 x0) fun v1 =>
 ak (Zd 92 v1 2) fun v2 =>
 ak (Zb H 31 v2) fun v3 =>
 ak (ZA H dep 11 31 v3) fun v4 =>
  bW env Tryz.f34 (dep+1) ig [(12,(.v (.int .i64 0))),(3,(.v (.slice none 0 0))),(1,x1),(10,v3),(11,v4)] H Q
theorem yb(dep:Nat)(x0 x1:AV)(H:ab)(Q:AV→ab→Prop)(h : ∀g,rS dep g x0 x1 H Q):bW env Tryz.f34 (dep+1) [.code nU] [(0,x0),(1,x1)] H Q:=⟨fun g=>aY (live:=rB) (cut:=rJ) (n:=500) (Eq.mp (by kernel_rfl) (h g))⟩
def eM(dep:Nat)(g:Nat→AV)(x12 x3 x1 x10 x11:AV)(H:ab)(Q:AV→ab→Prop):Prop :=
 ak (Zo 3 12 11 x12 x11) fun v1 =>
 br (some v1) (
 ak (Zw H 31 x10 x12) fun v2 =>
 ak (Zb H 56 v2) fun v3 =>
 aN (Zq H dep 6 56) fun v4 H1 =>
 aN (Zl H1 56 v4 v3) fun v5 H2 =>
 ak (Zd 56 v4 0) fun v6 =>
 ak (Zb H2 5 v6) fun v7 =>
 ak (ZO 5 17 v7) fun v8 =>
 gQ v8 false (Zd 56 v4 2) fun v9 =>
 gQ v8 false (Zd 50 v9 1) fun v10 =>
 gQ v8 false (Zd 40 v10 0) fun v11 =>
 gQ v8 false (Zb H2 35 v11) fun v12 =>
 gQ v8 false (Zb H2 35 x1) fun v13 =>
 gW v8 false H2 (Z2 dep H2 25 v12 v13) fun v14 H3 =>
 ak (Zn v8 v14) fun v15 =>
 br (some v15) (
 ak (Zb H3 56 v4) fun v16 =>
 aN (eO env.P false true H3 (⟨(dep+1),29,ab.gen H3 (dep+1) 29,0⟩:Ref) 31 1 (some [(0,v16)])) fun v17 H4 =>
 aN (ZQ H4 dep 30 31 31 x3 v17) fun v18 H5 =>
 ak (Ze 3 12 1 x12) fun v19 =>
  bW env Tryz.f34 (dep+1) ig [(12,v19),(3,v18),(1,x1),(10,x10),(11,x11)] H5 Q) (
 ak (Ze 3 12 1 x12) fun v16 =>
  bW env Tryz.f34 (dep+1) ig [(12,v16),(3,x3),(1,x1),(10,x10),(11,x11)] H3 Q)) (
 Q (.tup [x3,(.v (.int .i64 0))]) H)
theorem pn(dep:Nat)(x12 x3 x1 x10 x11:AV)(H:ab)(Q:AV→ab→Prop)(h : ∀g,eM dep g x12 x3 x1 x10 x11 H Q):bW env Tryz.f34 (dep+1) ig [(12,x12),(3,x3),(1,x1),(10,x10),(11,x11)] H Q:=dG fun g=>aY (live:=rB) (cut:=rJ) (n:=500) (Eq.mp (by kernel_rfl) (h g))
noncomputable def sq:Code:=(Tryz.f35.body).getD .skip
noncomputable def ic:List Item:=(cg 6 400 [.code sq]).getD []
def w7:Nat→Option (List Nat):=fun i=>cond (Nat.beq i 6) (some [28,6,7,26,27]) (none)
def xw:Nat→Bool:=fun i=>false
def o9(dep:Nat)(g:Nat→AV)(x0 x1:AV)(H:ab)(Q:AV→ab→Prop):Prop :=
 aN (Zj H dep 2 29 x0) fun v1 H1 =>
 ak (Zb H1 29 v1) fun v2 =>
 aN (bm env true (bj env) (bR env (dep+1)) H1 (⟨(dep+1),11,ab.gen H1 (dep+1) 11,0⟩:Ref) (some (.fn (.func 41) [] [])) [v2]) fun v3 H2 =>
 ak (Zf 23 11 0 v3) fun v4 =>
 gQ v4 false (ZN x1) fun v5 =>
 gQ v4 false (ZA H2 dep 15 31 v5) fun v6 =>
 gQ v4 false (Zt 3 15 2048 v6) fun v7 =>
 ak (Zn v4 v7) fun v8 =>
 br (some v8) (
 Q (.tup [(.v (.pointer none)),(.v (.bool false))]) H2) (
 ak (Zb H2 29 v1) fun v9 =>
 ak (Zb H2 29 v1) fun v10 =>
 aN (j1 env false (bj env) (bR env (dep+1)) H2 (⟨(dep+1),20,ab.gen H2 (dep+1) 20,0⟩:Ref) (some (.fn (.func 42) [] [])) [v10]) fun v11 H3 =>
 aN (ZL H3 dep 21) fun v12 H4 =>
 aN (ZL H4 dep 22) fun v13 H5 =>
 ak (cb env.P 92 (some [(0,v9),(1,v11),(3,v12),(4,v13)])) fun v14 =>
 aN (Zj H5 dep 24 92 v14) fun v15 H6 =>
 aN (bm env true (bj env) (bR env (dep+1)) H6 (⟨(dep+1),25,ab.gen H6 (dep+1) 25,0⟩:Ref) (some (.fn (.func 43) [] [])) []) fun v16 H7 =>
 ak (ZA H7 dep 27 31 x1) fun v17 =>
  bW env Tryz.f35 (dep+1) ic [(28,(.v (.int .i64 0))),(6,v15),(7,v16),(26,x1),(27,v17)] H7 Q)
theorem Dv(dep:Nat)(x0 x1:AV)(H:ab)(Q:AV→ab→Prop)(h : ∀g,o9 dep g x0 x1 H Q):bW env Tryz.f35 (dep+1) [.code sq] [(0,x0),(1,x1)] H Q:=⟨fun g=>aY (live:=w7) (cut:=xw) (n:=500) (Eq.mp (by kernel_rfl) (h g))⟩
def ni(dep:Nat)(g:Nat→AV)(x28 x6 x7 x26 x27:AV)(H:ab)(Q:AV→ab→Prop):Prop :=
 ak (Zo 3 28 27 x28 x27) fun v1 =>
 br (some v1) (
 ak (Zw H 31 x26 x28) fun v2 =>
 ak (Zb H 56 v2) fun v3 =>
 aN (Zq H dep 9 56) fun v4 H1 =>
 aN (Zl H1 56 v4 v3) fun v5 H2 =>
 ak (Zb H2 56 v4) fun v6 =>
 aN (bm env true (bj env) (bR env (dep+1)) H2 (⟨(dep+1),33,ab.gen H2 (dep+1) 33,0⟩:Ref) (some (.fn (.func 44) [] [])) [v6]) fun v7 H3 =>
 ak (Zf 23 33 0 v7) fun v8 =>
 gQ v8 false (ZN x7) fun v9 =>
 gQ v8 false (Zd 56 v4 0) fun v10 =>
 gQ v8 false (Zb H3 5 v10) fun v11 =>
 gQ v8 false (ZI H3 102 v9 v11) fun v12 =>
 gQ v8 false (Y6 108 v12 0) fun v13 =>
 gQ v8 false (ZN x6) fun v14 =>
 gQ v8 false (Zb H3 56 v4) fun v15 =>
 gW v8 false H3 (ZR dep H3 43 v13 v14 v15) fun v16 H4 =>
 gQ v8 false (ZH v16) fun v17 =>
 ak (Zn v8 v17) fun v18 =>
 br (some v18) (
 Q (.tup [(.v (.pointer none)),(.v (.bool false))]) H4) (
 ak (Zd 56 v4 0) fun v19 =>
 ak (Zb H4 5 v19) fun v20 =>
 ak (ZI H4 102 x7 v20) fun v21 =>
 ak (Y6 108 v21 1) fun v22 =>
 ak (Zb H4 56 v4) fun v23 =>
 aN (ZR dep H4 53 v22 x6 v23) fun v24 H5 =>
 ak (Z3 x6) fun v25 =>
 ak (Zd 92 v25 2) fun v26 =>
 ak (Zb H5 31 v26) fun v27 =>
 ak (Zb H5 56 v4) fun v28 =>
 aN (bm env false (bj env) (bR env (dep+1)) H5 (⟨(dep+1),60,ab.gen H5 (dep+1) 60,0⟩:Ref) (some (.fn (.func 45) [] [])) [v28]) fun v29 H6 =>
 aN (Z7 H6 dep 61 31 1 0 v29) fun v30 H7 =>
 aN (ZQ H7 dep 62 31 31 v27 v30) fun v31 H8 =>
 ak (Z3 x6) fun v32 =>
 ak (Zd 92 v32 2) fun v33 =>
 aN (Zl H8 31 v33 v31) fun v34 H9 =>
 ak (Ze 3 28 1 x28) fun v35 =>
  bW env Tryz.f35 (dep+1) ic [(28,v35),(6,x6),(7,x7),(26,x26),(27,x27)] H9 Q)) (
 Q (.tup [x6,(.v (.bool true))]) H)
theorem pk(dep:Nat)(x28 x6 x7 x26 x27:AV)(H:ab)(Q:AV→ab→Prop)(h : ∀g,ni dep g x28 x6 x7 x26 x27 H Q):bW env Tryz.f35 (dep+1) ic [(28,x28),(6,x6),(7,x7),(26,x26),(27,x27)] H Q:=dG fun g=>aY (live:=w7) (cut:=xw) (n:=500) (Eq.mp (by kernel_rfl) (h g))
noncomputable def qz:Code:=(Tryz.f71.body).getD .skip
def xd:Nat→Option (List Nat):=fun i=>none
def xD:Nat→Bool:=fun i=>false
def qG(dep:Nat)(g:Nat→AV)(x0 x1:AV)(H:ab)(Q:AV→ab→Prop):Prop :=
 aN (Zj H dep 3 56 x1) fun v1 H1 =>
 ak (Zd 56 v1 2) fun v2 =>
 ak (Zd 50 v2 1) fun v3 =>
 ak (Zd 40 v3 0) fun v4 =>
 ak (Zb H1 35 v4) fun v5 =>
 aN (Z5 dep H1 13 x0 v5) fun v6 H2 =>
 ak (ZB v6 0) fun v7 =>
 ak (ZB v6 1) fun v8 =>
 ak (Z3 x0) fun v9 =>
 ak (Zd 92 v9 3) fun v10 =>
 ak (Zb H2 88 v10) fun v11 =>
 ak (Zd 56 v1 2) fun v12 =>
 ak (Zd 50 v12 1) fun v13 =>
 ak (Zb H2 40 v13) fun v14 =>
 ak (ZI H2 88 v11 v14) fun v15 =>
 ak (Y6 119 v15 0) fun v16 =>
 ak (ZH v16) fun v17 =>
 gQ v17 true (ZN x0) fun v18 =>
 gQ v17 true (Zd 56 v1 1) fun v19 =>
 gQ v17 true (Zb H2 3 v19) fun v20 =>
 gQ v17 true (Zd 56 v1 2) fun v21 =>
 gQ v17 true (Zd 50 v21 1) fun v22 =>
 gQ v17 true (Zd 40 v22 0) fun v23 =>
 gQ v17 true (Zb H2 35 v23) fun v24 =>
 gW v17 true H2 (bm env true (bj env) (bR env (dep+1)) H2 (⟨(dep+1),34,ab.gen H2 (dep+1) 34,0⟩:Ref) (some (.fn (.func 73) [] [])) [v18,v20,v24]) fun v25 H3 =>
 ak (Zh v17 v25) fun v26 =>
 gQ v26 true (ZN v7) fun v27 =>
 ak (Zh v26 v27) fun v28 =>
 Q v28 H3
theorem wo(dep:Nat)(x0 x1:AV)(H:ab)(Q:AV→ab→Prop)(h : ∀g,qG dep g x0 x1 H Q):bW env Tryz.f71 (dep+1) [.code qz] [(0,x0),(1,x1)] H Q:=⟨fun g=>aY (live:=xd) (cut:=xD) (n:=500) (Eq.mp (by kernel_rfl) (h g))⟩
noncomputable def iB:Code:=(Tryz.f72.body).getD .skip
def mF:Nat→Option (List Nat):=fun i=>none
def mK:Nat→Bool:=fun i=>false
def iG(dep:Nat)(g:Nat→AV)(x0 x1:AV)(H:ab)(Q:AV→ab→Prop):Prop :=
 aN (Zj H dep 3 35 x1) fun v1 H1 =>
 ak (Z3 x0) fun v2 =>
 ak (Zd 92 v2 0) fun v3 =>
 ak (Zb H1 29 v3) fun v4 =>
 ak (Zb H1 35 v1) fun v5 =>
 aN (ZY dep H1 15 v4 v5) fun v6 H2 =>
 ak (ZB v6 0) fun v7 =>
 ak (ZB v6 1) fun v8 =>
 aN (Zq H2 dep 6 76) fun v9 H3 =>
 aN (Zl H3 76 v9 v7) fun v10 H4 =>
 ak (Z3 x0) fun v11 =>
 ak (Zd 92 v11 4) fun v12 =>
 ak (Zb H4 89 v12) fun v13 =>
 ak (Zb H4 35 v1) fun v14 =>
 ak (ZI H4 89 v13 v14) fun v15 =>
 aN (Zq H4 dep 8 76) fun v16 H5 =>
 aN (Zl H5 76 v16 v15) fun v17 H6 =>
 ak (Zd 76 v16 1) fun v18 =>
 ak (Zb H6 3 v18) fun v19 =>
 ak (Zd 76 v9 1) fun v20 =>
 ak (Zb H6 3 v20) fun v21 =>
 ak (Zo 3 25 27 v19 v21) fun v22 =>
 ak (Zd 76 v16 2) fun v23 =>
 ak (Zb H6 3 v23) fun v24 =>
 ak (Zd 76 v9 2) fun v25 =>
 ak (Zb H6 3 v25) fun v26 =>
 ak (Zo 3 30 32 v24 v26) fun v27 =>
 Q (.tup [v22,v27]) H6
theorem mA(dep:Nat)(x0 x1:AV)(H:ab)(Q:AV→ab→Prop)(h : ∀g,iG dep g x0 x1 H Q):bW env Tryz.f72 (dep+1) [.code iB] [(0,x0),(1,x1)] H Q:=⟨fun g=>aY (live:=mF) (cut:=mK) (n:=500) (Eq.mp (by kernel_rfl) (h g))⟩
noncomputable def iW:Code:=(Tryz.f73.body).getD .skip
def mW:Nat→Option (List Nat):=fun i=>none
def m5:Nat→Bool:=fun i=>false
def fb(dep:Nat)(g:Nat→AV)(x0 x1 x2:AV)(H:ab)(Q:AV→ab→Prop):Prop :=
 aN (Zj H dep 5 35 x2) fun v1 H1 =>
 ak (Z3 x0) fun v2 =>
 ak (Zd 92 v2 1) fun v3 =>
 ak (Zb H1 29 v3) fun v4 =>
 ak (Zb H1 35 v1) fun v5 =>
 aN (bm env false (bj env) (bR env (dep+1)) H1 (⟨(dep+1),16,ab.gen H1 (dep+1) 16,0⟩:Ref) (some (.fn (.func 93) [] [])) [v4,x1,v5]) fun v6 H2 =>
 ak (ZB v6 0) fun v7 =>
 ak (ZB v6 1) fun v8 =>
 ak (Zg 23 19 0 v8) fun v9 =>
 gQ v9 true (ZN v7) fun v10 =>
 ak (Zh v9 v10) fun v11 =>
 Q v11 H2
theorem mO(dep:Nat)(x0 x1 x2:AV)(H:ab)(Q:AV→ab→Prop)(h : ∀g,fb dep g x0 x1 x2 H Q):bW env Tryz.f73 (dep+1) [.code iW] [(0,x0),(1,x1),(2,x2)] H Q:=⟨fun g=>aY (live:=mW) (cut:=m5) (n:=500) (Eq.mp (by kernel_rfl) (h g))⟩
noncomputable def qy:Code:=(Tryz.f74.body).getD .skip
def xc:Nat→Option (List Nat):=fun i=>none
def xC:Nat→Bool:=fun i=>false
def qF(dep:Nat)(g:Nat→AV)(x0 x1:AV)(H:ab)(Q:AV→ab→Prop):Prop :=
 aN (Zj H dep 3 56 x1) fun v1 H1 =>
 ak (Z3 x0) fun v2 =>
 ak (Zd 92 v2 3) fun v3 =>
 ak (Zb H1 88 v3) fun v4 =>
 ak (Zd 56 v1 2) fun v5 =>
 ak (Zd 50 v5 1) fun v6 =>
 ak (Zb H1 40 v6) fun v7 =>
 ak (Zd 56 v1 1) fun v8 =>
 ak (Zb H1 3 v8) fun v9 =>
 ak (cb env.P 119 (some [(0,(.v (.bool true))),(1,v9)])) fun v10 =>
 aN (dE env.P H1 88 (some v4) (some v7) (some v10)) fun v11 H2 =>
 ak (Z3 x0) fun v12 =>
 ak (Zd 92 v12 4) fun v13 =>
 ak (Zb H2 89 v13) fun v14 =>
 ak (Zd 56 v1 2) fun v15 =>
 ak (Zd 50 v15 1) fun v16 =>
 ak (Zd 40 v16 0) fun v17 =>
 ak (Zb H2 35 v17) fun v18 =>
 ak (ZI H2 89 v14 v18) fun v19 =>
 aN (Zq H2 dep 4 76) fun v20 H3 =>
 aN (Zl H3 76 v20 v19) fun v21 H4 =>
 ak (Zd 76 v20 1) fun v22 =>
 ak (Zb H4 3 v22) fun v23 =>
 ak (Ze 3 25 1 v23) fun v24 =>
 ak (Zd 76 v20 1) fun v25 =>
 aN (Zl H4 3 v25 v24) fun v26 H5 =>
 ak (Z3 x0) fun v27 =>
 ak (Zd 92 v27 4) fun v28 =>
 ak (Zb H5 89 v28) fun v29 =>
 ak (Zd 56 v1 2) fun v30 =>
 ak (Zd 50 v30 1) fun v31 =>
 ak (Zd 40 v31 0) fun v32 =>
 ak (Zb H5 35 v32) fun v33 =>
 ak (Zb H5 76 v20) fun v34 =>
 aN (dE env.P H5 89 (some v29) (some v33) (some v34)) fun v35 H6 =>
 Q (.v (.tuple #[])) H6
theorem wm(dep:Nat)(x0 x1:AV)(H:ab)(Q:AV→ab→Prop)(h : ∀g,qF dep g x0 x1 H Q):bW env Tryz.f74 (dep+1) [.code qy] [(0,x0),(1,x1)] H Q:=⟨fun g=>aY (live:=xc) (cut:=xC) (n:=500) (Eq.mp (by kernel_rfl) (h g))⟩
noncomputable def qx:Code:=(Tryz.f75.body).getD .skip
def xb:Nat→Option (List Nat):=fun i=>none
def xB:Nat→Bool:=fun i=>false
def qE(dep:Nat)(g:Nat→AV)(x0 x1:AV)(H:ab)(Q:AV→ab→Prop):Prop :=
 aN (Zj H dep 3 56 x1) fun v1 H1 =>
 ak (Z3 x0) fun v2 =>
 ak (Zd 92 v2 3) fun v3 =>
 ak (Zb H1 88 v3) fun v4 =>
 ak (Zd 56 v1 2) fun v5 =>
 ak (Zd 50 v5 1) fun v6 =>
 ak (Zb H1 40 v6) fun v7 =>
 ak (ZI H1 88 v4 v7) fun v8 =>
 aN (Zq H1 dep 5 119) fun v9 H2 =>
 aN (Zl H2 119 v9 v8) fun v10 H3 =>
 ak (Zd 56 v1 2) fun v11 =>
 ak (Zd 50 v11 1) fun v12 =>
 ak (Zd 40 v12 0) fun v13 =>
 ak (Zb H3 35 v13) fun v14 =>
 aN (Z5 dep H3 22 x0 v14) fun v15 H4 =>
 ak (ZB v15 0) fun v16 =>
 ak (ZB v15 1) fun v17 =>
 ak (Zd 119 v9 0) fun v18 =>
 ak (Zb H4 4 v18) fun v19 =>
 gQ v19 true (ZN x0) fun v20 =>
 gQ v19 true (Zd 119 v9 1) fun v21 =>
 gQ v19 true (Zb H4 3 v21) fun v22 =>
 gQ v19 true (Zd 56 v1 2) fun v23 =>
 gQ v19 true (Zd 50 v23 1) fun v24 =>
 gQ v19 true (Zd 40 v24 0) fun v25 =>
 gQ v19 true (Zb H4 35 v25) fun v26 =>
 gW v19 true H4 (j1 env true (bj env) (bR env (dep+1)) H4 (⟨(dep+1),35,ab.gen H4 (dep+1) 35,0⟩:Ref) (some (.fn (.func 73) [] [])) [v20,v22,v26]) fun v27 H5 =>
 ak (Zh v19 v27) fun v28 =>
 gQ v28 true (Zd 56 v1 2) fun v29 =>
 gQ v28 true (Zd 50 v29 2) fun v30 =>
 gQ v28 true (Zb H5 3 v30) fun v31 =>
 gQ v28 true (Zd 119 v9 2) fun v32 =>
 gQ v28 true (Zb H5 3 v32) fun v33 =>
 gQ v28 true (Ze 3 42 1 v33) fun v34 =>
 gQ v28 true (Zp 3 40 43 v31 v34) fun v35 =>
 ak (Zh v28 v35) fun v36 =>
 gQ v36 true (ZN v17) fun v37 =>
 ak (Zh v36 v37) fun v38 =>
 gQ v38 true (Zd 56 v1 3) fun v39 =>
 gQ v38 true (Zb H5 23 v39) fun v40 =>
 gQ v38 true (ZN x0) fun v41 =>
 gQ v38 true (Zd 56 v1 2) fun v42 =>
 gQ v38 true (Zb H5 50 v42) fun v43 =>
 gW v38 true H5 (j1 env true (bj env) (bR env (dep+1)) H5 (⟨(dep+1),55,ab.gen H5 (dep+1) 55,0⟩:Ref) (some (.fn (.func 76) [] [])) [v41,v43]) fun v44 H6 =>
 gQ v38 true (Zp 23 51 55 v40 v44) fun v45 =>
 ak (Zh v38 v45) fun v46 =>
  jS [(v35,v34)] [] [] H6 ∧
 (Q v46 H6)
theorem wj(dep:Nat)(x0 x1:AV)(H:ab)(Q:AV→ab→Prop)(h : ∀g,qE dep g x0 x1 H Q):bW env Tryz.f75 (dep+1) [.code qx] [(0,x0),(1,x1)] H Q:=⟨fun g=>aY (live:=xb) (cut:=xB) (n:=500) (Eq.mp (by kernel_rfl) (h g))⟩
noncomputable def gE:Code:=(Tryz.f76.body).getD .skip
def lz:Nat→Option (List Nat):=fun i=>none
def lB:Nat→Bool:=fun i=>false
def cD(dep:Nat)(g:Nat→AV)(x0 x1:AV)(H:ab)(Q:AV→ab→Prop):Prop :=
 aN (Zj H dep 3 50 x1) fun v1 H1 =>
 ak (Z3 x0) fun v2 =>
 ak (Zd 92 v2 5) fun v3 =>
 ak (Zb H1 90 v3) fun v4 =>
 ak (Zb H1 50 v1) fun v5 =>
 aN (bm env false (bj env) (bR env (dep+1)) H1 (⟨(dep+1),13,ab.gen H1 (dep+1) 13,0⟩:Ref) (some (.fn (.func 94) [] [])) [v4,v5]) fun v6 H2 =>
 ak (Zf 23 14 0 v6) fun v7 =>
 br (some v7) (
 Q v6 H2) (
 ak (Z3 x0) fun v8 =>
 ak (Zd 92 v8 0) fun v9 =>
 ak (Zb H2 29 v9) fun v10 =>
 ak (Zd 50 v1 1) fun v11 =>
 ak (Zd 40 v11 0) fun v12 =>
 ak (Zb H2 35 v12) fun v13 =>
 aN (ZY dep H2 25 v10 v13) fun v14 H3 =>
 ak (ZB v14 0) fun v15 =>
 ak (ZB v14 1) fun v16 =>
 aN (Zq H3 dep 6 76) fun v17 H4 =>
 aN (Zl H4 76 v17 v15) fun v18 H5 =>
 ak (Zd 50 v1 0) fun v19 =>
 ak (Zb H5 5 v19) fun v20 =>
 ak (ZJ 5 29 v20) fun v21 =>
 gQ v21 true (ZN x0) fun v22 =>
 gQ v21 true (Z3 v22) fun v23 =>
 gQ v21 true (Zd 92 v23 4) fun v24 =>
 gQ v21 true (Zb H5 89 v24) fun v25 =>
 gQ v21 true (Zd 50 v1 1) fun v26 =>
 gQ v21 true (Zd 40 v26 0) fun v27 =>
 gQ v21 true (Zb H5 35 v27) fun v28 =>
 gQ v21 true (ZI H5 89 v25 v28) fun v29 =>
 gQ v21 true (Y6 76 v29 3) fun v30 =>
 gQ v21 true (Zd 50 v1 3) fun v31 =>
 gQ v21 true (Zd 47 v31 1) fun v32 =>
 gQ v21 true (Zb H5 3 v32) fun v33 =>
 gQ v21 true (ZC 3 40 43 v30 v33) fun v34 =>
 gQ v21 true (Zd 76 v17 3) fun v35 =>
 gQ v21 true (Zb H5 3 v35) fun v36 =>
 gQ v21 true (aE env.P .gtr 3 (Operand.tmp 44) (Operand.tmp 46) (some v34) (some v36)) fun v37 =>
 ak (Zh v21 v37) fun v38 =>
 br (some v38) (
 Q (.v (.int .i64 9)) H5) (
 Q (.v (.int .i64 0)) H5))
theorem lu(dep:Nat)(x0 x1:AV)(H:ab)(Q:AV→ab→Prop)(h : ∀g,cD dep g x0 x1 H Q):bW env Tryz.f76 (dep+1) [.code gE] [(0,x0),(1,x1)] H Q:=⟨fun g=>aY (live:=lz) (cut:=lB) (n:=500) (Eq.mp (by kernel_rfl) (h g))⟩
noncomputable def m8:Code:=(Tryz.f77.body).getD .skip
def xa:Nat→Option (List Nat):=fun i=>none
def xA:Nat→Bool:=fun i=>false
def gq(dep:Nat)(g:Nat→AV)(x0 x1:AV)(H:ab)(Q:AV→ab→Prop):Prop :=
 aN (Zj H dep 3 56 x1) fun v1 H1 =>
 ak (Z3 x0) fun v2 =>
 ak (Zd 92 v2 3) fun v3 =>
 ak (Zb H1 88 v3) fun v4 =>
 ak (Zd 56 v1 2) fun v5 =>
 ak (Zd 50 v5 1) fun v6 =>
 ak (Zb H1 40 v6) fun v7 =>
 ak (ZI H1 88 v4 v7) fun v8 =>
 ak (Z3 x0) fun v9 =>
 ak (Zd 92 v9 4) fun v10 =>
 ak (Zb H1 89 v10) fun v11 =>
 ak (Zd 56 v1 2) fun v12 =>
 ak (Zd 50 v12 1) fun v13 =>
 ak (Zd 40 v13 0) fun v14 =>
 ak (Zb H1 35 v14) fun v15 =>
 ak (ZI H1 89 v11 v15) fun v16 =>
 aN (Zq H1 dep 4 119) fun v17 H2 =>
 aN (Zq H2 dep 5 76) fun v18 H3 =>
 aN (Zl H3 119 v17 v8) fun v19 H4 =>
 aN (Zl H4 76 v18 v16) fun v20 H5 =>
  jS [(v10,v17),(v14,v17),(v11,v17)] [v17,v18] [] H5 ∧
 (ak (Zd 119 v17 2) fun v21 =>
 ak (Zb H5 3 v21) fun v22 =>
 ak (Ze 3 24 1 v22) fun v23 =>
 ak (Zd 119 v17 2) fun v24 =>
 aN (Zl H5 3 v24 v23) fun v25 H6 =>
 ak (Zd 76 v18 2) fun v26 =>
 ak (Zb H6 3 v26) fun v27 =>
 ak (Ze 3 28 1 v27) fun v28 =>
 ak (Zd 76 v18 2) fun v29 =>
 aN (Zl H6 3 v29 v28) fun v30 H7 =>
 ak (Zd 56 v1 3) fun v31 =>
 ak (Zb H7 23 v31) fun v32 =>
 ak (Zg 23 32 0 v32) fun v33 =>
 br (some v33) (
 ak (Z3 x0) fun v34 =>
 ak (Zd 92 v34 5) fun v35 =>
 ak (Zb H7 90 v35) fun v36 =>
 ak (Zd 56 v1 2) fun v37 =>
 ak (Zb H7 50 v37) fun v38 =>
 aN (bm env false (bj env) (bR env (dep+1)) H7 (⟨(dep+1),41,ab.gen H7 (dep+1) 41,0⟩:Ref) (some (.fn (.func 78) [] [])) [v38]) fun v39 H8 =>
 aN (Z7 H8 dep 42 90 1 0 v39) fun v40 H9 =>
 aN (ZQ H9 dep 43 90 90 v36 v40) fun v41 H10 =>
 ak (Z3 x0) fun v42 =>
 ak (Zd 92 v42 5) fun v43 =>
 aN (Zl H10 90 v43 v41) fun v44 H11 =>
 ak (Zd 56 v1 2) fun v45 =>
 ak (Zd 50 v45 0) fun v46 =>
 ak (Zb H11 5 v46) fun v47 =>
 ak (ZJ 5 48 v47) fun v48 =>
 br (some v48) (
 ak (Zd 76 v18 3) fun v49 =>
 ak (Zb H11 3 v49) fun v50 =>
 ak (Zd 56 v1 2) fun v51 =>
 ak (Zd 50 v51 3) fun v52 =>
 ak (Zd 47 v52 1) fun v53 =>
 ak (Zb H11 3 v53) fun v54 =>
 ak (ZC 3 51 55 v50 v54) fun v55 =>
 ak (Zd 76 v18 3) fun v56 =>
 aN (Zl H11 3 v56 v55) fun v57 H12 =>
 ak (Z3 x0) fun v58 =>
 ak (Zd 92 v58 3) fun v59 =>
 ak (Zb H12 88 v59) fun v60 =>
 ak (Zd 56 v1 2) fun v61 =>
 ak (Zd 50 v61 1) fun v62 =>
 ak (Zb H12 40 v62) fun v63 =>
 ak (Z3 x0) fun v64 =>
 ak (Zd 92 v64 4) fun v65 =>
 ak (Zb H12 89 v65) fun v66 =>
 ak (Zd 56 v1 2) fun v67 =>
 ak (Zd 50 v67 1) fun v68 =>
 ak (Zd 40 v68 0) fun v69 =>
 ak (Zb H12 35 v69) fun v70 =>
 ak (Zb H12 119 v17) fun v71 =>
 ak (Zb H12 76 v18) fun v72 =>
 aN (Y8 H12 88 v60 v63) fun v73 H13 =>
 ak (ZB v73 1) fun v74 =>
 aN (Y7 H13 v60 v74 v71) fun v75 H14 =>
 aN (Y8 H14 89 v66 v70) fun v76 H15 =>
 ak (ZB v76 1) fun v77 =>
 aN (Y7 H15 v66 v77 v72) fun v78 H16 =>
  jS [(v69,v60),(v17,v60),(v18,v60),(v18,v66)] [] [] H16 ∧
 (Q (.v (.tuple #[])) H16)) (
 ak (Z3 x0) fun v49 =>
 ak (Zd 92 v49 3) fun v50 =>
 ak (Zb H11 88 v50) fun v51 =>
 ak (Zd 56 v1 2) fun v52 =>
 ak (Zd 50 v52 1) fun v53 =>
 ak (Zb H11 40 v53) fun v54 =>
 ak (Z3 x0) fun v55 =>
 ak (Zd 92 v55 4) fun v56 =>
 ak (Zb H11 89 v56) fun v57 =>
 ak (Zd 56 v1 2) fun v58 =>
 ak (Zd 50 v58 1) fun v59 =>
 ak (Zd 40 v59 0) fun v60 =>
 ak (Zb H11 35 v60) fun v61 =>
 ak (Zb H11 119 v17) fun v62 =>
 ak (Zb H11 76 v18) fun v63 =>
 aN (Y8 H11 88 v51 v54) fun v64 H12 =>
 ak (ZB v64 1) fun v65 =>
 aN (Y7 H12 v51 v65 v62) fun v66 H13 =>
 aN (Y8 H13 89 v57 v61) fun v67 H14 =>
 ak (ZB v67 1) fun v68 =>
 aN (Y7 H14 v57 v68 v63) fun v69 H15 =>
  jS [(v60,v51),(v17,v51),(v18,v51),(v18,v57)] [] [] H15 ∧
 (Q (.v (.tuple #[])) H15))) (
 ak (Z3 x0) fun v34 =>
 ak (Zd 92 v34 3) fun v35 =>
 ak (Zb H7 88 v35) fun v36 =>
 ak (Zd 56 v1 2) fun v37 =>
 ak (Zd 50 v37 1) fun v38 =>
 ak (Zb H7 40 v38) fun v39 =>
 ak (Z3 x0) fun v40 =>
 ak (Zd 92 v40 4) fun v41 =>
 ak (Zb H7 89 v41) fun v42 =>
 ak (Zd 56 v1 2) fun v43 =>
 ak (Zd 50 v43 1) fun v44 =>
 ak (Zd 40 v44 0) fun v45 =>
 ak (Zb H7 35 v45) fun v46 =>
 ak (Zb H7 119 v17) fun v47 =>
 ak (Zb H7 76 v18) fun v48 =>
 aN (Y8 H7 88 v36 v39) fun v49 H8 =>
 ak (ZB v49 1) fun v50 =>
 aN (Y7 H8 v36 v50 v47) fun v51 H9 =>
 aN (Y8 H9 89 v42 v46) fun v52 H10 =>
 ak (ZB v52 1) fun v53 =>
 aN (Y7 H10 v42 v53 v48) fun v54 H11 =>
  jS [(v45,v36),(v17,v36),(v18,v36),(v18,v42)] [] [] H11 ∧
 (Q (.v (.tuple #[])) H11)))
theorem p8(dep:Nat)(x0 x1:AV)(H:ab)(Q:AV→ab→Prop)(h : ∀g,gq dep g x0 x1 H Q):bW env Tryz.f77 (dep+1) [.code m8] [(0,x0),(1,x1)] H Q:=⟨fun g=>aY (live:=xa) (cut:=xA) (n:=500) (Eq.mp (by kernel_rfl) (h g))⟩
noncomputable def qw:Code:=(Tryz.f79.body).getD .skip
def w9:Nat→Option (List Nat):=fun i=>none
def xz:Nat→Bool:=fun i=>false
def nj(dep:Nat)(g:Nat→AV)(x0 x1:AV)(H:ab)(Q:AV→ab→Prop):Prop :=
 aN (Zj H dep 3 56 x1) fun v1 H1 =>
 ak (Z3 x0) fun v2 =>
 ak (Zd 92 v2 1) fun v3 =>
 ak (Zb H1 29 v3) fun v4 =>
 ak (Zd 56 v1 4) fun v5 =>
 ak (Zb H1 54 v5) fun v6 =>
 aN (ZZ dep H1 14 v4 v6) fun v7 H2 =>
 ak (ZB v7 0) fun v8 =>
 ak (ZB v7 1) fun v9 =>
 aN (Zq H2 dep 5 29) fun v10 H3 =>
 aN (Zl H3 29 v10 v8) fun v11 H4 =>
 ak (Zg 23 17 0 v9) fun v12 =>
 Q v12 H4
theorem wi(dep:Nat)(x0 x1:AV)(H:ab)(Q:AV→ab→Prop)(h : ∀g,nj dep g x0 x1 H Q):bW env Tryz.f79 (dep+1) [.code qw] [(0,x0),(1,x1)] H Q:=⟨fun g=>aY (live:=w9) (cut:=xz) (n:=500) (Eq.mp (by kernel_rfl) (h g))⟩
noncomputable def qv:Code:=(Tryz.f81.body).getD .skip
def w8:Nat→Option (List Nat):=fun i=>none
def xy:Nat→Bool:=fun i=>false
def qD(dep:Nat)(g:Nat→AV)(x0 x1:AV)(H:ab)(Q:AV→ab→Prop):Prop :=
 aN (Zj H dep 3 56 x1) fun v1 H1 =>
 ak (Z3 x0) fun v2 =>
 ak (Zd 92 v2 1) fun v3 =>
 ak (Zb H1 29 v3) fun v4 =>
 ak (Zd 56 v1 4) fun v5 =>
 ak (Zb H1 54 v5) fun v6 =>
 aN (ZZ dep H1 12 v4 v6) fun v7 H2 =>
 ak (ZB v7 0) fun v8 =>
 ak (ZB v7 1) fun v9 =>
 ak (Z3 x0) fun v10 =>
 ak (Zd 92 v10 1) fun v11 =>
 aN (Zl H2 29 v11 v8) fun v12 H3 =>
 Q (.v (.tuple #[])) H3
theorem wh(dep:Nat)(x0 x1:AV)(H:ab)(Q:AV→ab→Prop)(h : ∀g,qD dep g x0 x1 H Q):bW env Tryz.f81 (dep+1) [.code qv] [(0,x0),(1,x1)] H Q:=⟨fun g=>aY (live:=w8) (cut:=xy) (n:=500) (Eq.mp (by kernel_rfl) (h g))⟩
end Go.Proofs.YtdbiffjdomokfaaGreat
