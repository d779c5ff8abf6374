/-
  What is to be shown of each function, computed from its code. No statement of a seat is proved here.
-/
import Derived.Test.YtdbiffjdomokfaaGreatAuTy
set_option linter.unusedVariables false
set_option maxRecDepth 1000000
namespace Go.Proofs.YtdbiffjdomokfaaGreat
open Go.Ab
noncomputable def jv:Code:=(Tryz.f13.body).getD .skip
noncomputable def eJ:List Item:=(b7 3 400 [.code jv]).getD []
def mr:Nat→Option (List Nat):=fun i=>cond (Nat.beq i 3) (some [8,1,7,2,3]) (none)
def mB:Nat→Bool:=fun i=>false
def jy(g:Nat→AV)(x0 x1 x2:AV)(H:ab)(Q:AV→ab→Prop):Prop :=
 aO (zac H 3 29 x0) fun v1 H1 =>
  bT env Tryz.f13 0 eJ [(8,(.v (.int .i64 0))),(1,x1),(7,(.v (.int .i64 0))),(2,x2),(3,v1)] H1 Q
theorem rS(x0 x1 x2:AV)(H:ab)(Q:AV→ab→Prop)(h : ∀g,jy g x0 x1 x2 H Q):bT env Tryz.f13 0 [.code jv] [(0,x0),(1,x1),(2,x2)] H Q:=⟨fun g=>aX (live:=mr) (cut:=mB) (n:=500) (Eq.mp (by kernel_rfl) (h g))⟩
def fx(g:Nat→AV)(x8 x1 x7 x2 x3:AV)(H:ab)(Q:AV→ab→Prop):Prop :=
 ak (zah H 11 31 x1) fun v1 =>
 ak (zao 3 9 11 x8 v1) fun v2 =>
 gQ v2 true (zbj x8) fun v3 =>
 gQ v2 true (zas 3 14 300 v3) fun v4 =>
 ak (zag v2 v4) fun v5 =>
 br (some v5) (
 ak (zau H 31 x1 x8) fun v6 =>
 ak (zad 56 v6 2) fun v7 =>
 ak (zad 50 v7 3) fun v8 =>
 ak (zad 47 v8 1) fun v9 =>
 ak (zab H 3 v9) fun v10 =>
 ak (aJ env.P true (ab.get H) (Ref.mk 0 27 (ab.gen H 0 27) 0) .max #[3,3] [v10,(.v (.int .i64 0))]) fun v11 =>
 ak (aJ env.P true (ab.get H) (Ref.mk 0 28 (ab.gen H 0 28) 0) .min #[3,3] [v11,(.v (.int .i64 100))]) fun v12 =>
 ak (zau H 31 x1 x8) fun v13 =>
 ak (zad 56 v13 2) fun v14 =>
 ak (zad 50 v14 6) fun v15 =>
 ak (zab H 48 v15) fun v16 =>
 ak (zah H 35 48 v16) fun v17 =>
 ak (aJ env.P true (ab.get H) (Ref.mk 0 36 (ab.gen H 0 36) 0) .min #[3,3] [v17,(.v (.int .i64 1000))]) fun v18 =>
 ak (zci H 37 3 3 v12 v18) fun v19 =>
 ak (zbd 3 19 37 x7 v19) fun v20 =>
 ak (zae 3 17 1 x8) fun v21 =>
  bT env Tryz.f13 0 eJ [(8,v21),(1,x1),(7,v20),(2,x2),(3,x3)] H Q) (
 ak (zab H 29 x3) fun v6 =>
 aO (zaa true H 40 25 [v6]) fun v7 H1 =>
 gQ v7 false (zbj x1) fun v8 =>
 gQ v7 false (zah H1 43 31 v8) fun v9 =>
 gQ v7 false (zbj x2) fun v10 =>
 gQ v7 false (zcl 3 43 44 v9 v10) fun v11 =>
 ak (zal v7 v11) fun v12 =>
 gQ v12 false (zbj x7) fun v13 =>
 gQ v12 false (zar 3 48 300 v13) fun v14 =>
 ak (zal v12 v14) fun v15 =>
 Q v15 H1)
theorem lz(x8 x1 x7 x2 x3:AV)(H:ab)(Q:AV→ab→Prop)(h : ∀g,fx g x8 x1 x7 x2 x3 H Q):bT env Tryz.f13 0 eJ [(8,x8),(1,x1),(7,x7),(2,x2),(3,x3)] H Q:=dx fun g=>aX (live:=mr) (cut:=mB) (n:=500) (Eq.mp (by kernel_rfl) (h g))
noncomputable def vH:Code:=(Tryz.f21.body).getD .skip
def Cm:Nat→Option (List Nat):=fun i=>none
def CX:Nat→Bool:=fun i=>false
def vP(g:Nat→AV)(x0 x1 x2:AV)(H:ab)(Q:AV→ab→Prop):Prop :=
 aO (zac H 3 29 x0) fun v1 H1 =>
 aO (zac H1 5 35 x2) fun v2 H2 =>
 ak (zab H2 29 v1) fun v3 =>
 ak (zab H2 35 v2) fun v4 =>
 aO (zaa false H2 11 33 [v4]) fun v5 H3 =>
 ak (sG (.func 34) (some []) (some [v2])) fun v6 =>
 aO (zaa true H3 13 32 [v3,x1,v5,v6]) fun v7 H4 =>
 ak (zbb v7 0) fun v8 =>
 ak (zbb v7 1) fun v9 =>
 Q (.tup [v8,v9]) H4
theorem BE(x0 x1 x2:AV)(H:ab)(Q:AV→ab→Prop)(h : ∀g,vP g x0 x1 x2 H Q):bT env Tryz.f21 0 [.code vH] [(0,x0),(1,x1),(2,x2)] H Q:=⟨fun g=>aX (live:=Cm) (cut:=CX) (n:=500) (Eq.mp (by kernel_rfl) (h g))⟩
noncomputable def uy:Code:=(Tryz.f22.body).getD .skip
def A8:Nat→Option (List Nat):=fun i=>none
def Bf:Nat→Bool:=fun i=>false
def uG(g:Nat→AV)(x0 x1:AV)(H:ab)(Q:AV→ab→Prop):Prop :=
 aO (zac H 2 29 x0) fun v1 H1 =>
 ak (zab H1 29 v1) fun v2 =>
 aO (zaa true H1 10 35 [v2,x1]) fun v3 H2 =>
 ak (zbb v3 0) fun v4 =>
 ak (zbb v3 1) fun v5 =>
 ak (zbg v5) fun v6 =>
 br (some v6) (
 Q (.v (.int .i64 8)) H2) (
 Q (.v (.int .i64 0)) H2)
theorem AY(x0 x1:AV)(H:ab)(Q:AV→ab→Prop)(h : ∀g,uG g x0 x1 H Q):bT env Tryz.f22 0 [.code uy] [(0,x0),(1,x1)] H Q:=⟨fun g=>aX (live:=A8) (cut:=Bf) (n:=500) (Eq.mp (by kernel_rfl) (h g))⟩
noncomputable def fV:Code:=(Tryz.f32.body).getD .skip
def kZ:Nat→Option (List Nat):=fun i=>none
def k7:Nat→Bool:=fun i=>false
def fX(dep:Nat)(g:Nat→AV)(x0 x1 x2 x3:AV)(H:ab)(Q:AV→ab→Prop):Prop :=
 aO (zak H dep 4 29 x0) fun v1 H1 =>
 ak (zab H1 29 v1) fun v2 =>
 aO (bo env true (bj env) (bV env (dep+1)) H1 (⟨(dep+1),15,ab.gen H1 (dep+1) 15,0⟩:Ref) (some (.fn (.func 35) [] [])) [v2,x1]) fun v3 H2 =>
 ak (zbb v3 0) fun v4 =>
 ak (zbb v3 1) fun v5 =>
 ak (zbg v5) fun v6 =>
 br (some v6) (
 Q (.tup [(.v (.slice none 0 0)),(.v (.int .i64 8))]) H2) (
 ak (zaf 23 21 0 x2) fun v7 =>
 br (some v7) (
 Q (.tup [(.v (.slice none 0 0)),x2]) H2) (
 aO (zbs dep H2 27 x3 v4) fun v8 H3 =>
 ak (zbb v8 0) fun v9 =>
 ak (zbb v8 1) fun v10 =>
 Q (.tup [v9,v10]) H3))
theorem kX(dep:Nat)(x0 x1 x2 x3:AV)(H:ab)(Q:AV→ab→Prop)(h : ∀g,fX dep g x0 x1 x2 x3 H Q):bT env Tryz.f32 (dep+1) [.code fV] [(0,x0),(1,x1),(2,x2),(3,x3)] H Q:=⟨fun g=>aX (live:=kZ) (cut:=k7) (n:=500) (Eq.mp (by kernel_rfl) (h g))⟩
noncomputable def oU:Code:=(Tryz.f34.body).getD .skip
noncomputable def iF:List Item:=(b7 2 400 [.code oU]).getD []
def sL:Nat→Option (List Nat):=fun i=>cond (Nat.beq i 2) (some [12,3,1,10,11]) (none)
def sU:Nat→Bool:=fun i=>false
def ta(dep:Nat)(g:Nat→AV)(x0 x1:AV)(H:ab)(Q:AV→ab→Prop):Prop :=
 ak (zcc x0) fun v1 =>
 ak (zad 92 v1 2) fun v2 =>
 ak (zab H 31 v2) fun v3 =>
 ak (zbc H dep 11 31 v3) fun v4 =>
  bT env Tryz.f34 (dep+1) iF [(12,(.v (.int .i64 0))),(3,(.v (.slice none 0 0))),(1,x1),(10,v3),(11,v4)] H Q
theorem zF(dep:Nat)(x0 x1:AV)(H:ab)(Q:AV→ab→Prop)(h : ∀g,ta dep g x0 x1 H Q):bT env Tryz.f34 (dep+1) [.code oU] [(0,x0),(1,x1)] H Q:=⟨fun g=>aX (live:=sL) (cut:=sU) (n:=500) (Eq.mp (by kernel_rfl) (h g))⟩
def eZ(dep:Nat)(g:Nat→AV)(x12 x3 x1 x10 x11:AV)(H:ab)(Q:AV→ab→Prop):Prop :=
 ak (zao 3 12 11 x12 x11) fun v1 =>
 br (some v1) (
 ak (zau H 31 x10 x12) fun v2 =>
 ak (zab H 56 v2) fun v3 =>
 aO (zaq H dep 6 56) fun v4 H1 =>
 aO (zam H1 56 v4 v3) fun v5 H2 =>
 ak (zad 56 v4 0) fun v6 =>
 ak (zab H2 5 v6) fun v7 =>
 ak (zbo 5 17 v7) fun v8 =>
 gQ v8 false (zad 56 v4 2) fun v9 =>
 gQ v8 false (zad 50 v9 1) fun v10 =>
 gQ v8 false (zad 40 v10 0) fun v11 =>
 gQ v8 false (zab H2 35 v11) fun v12 =>
 gQ v8 false (zab H2 35 x1) fun v13 =>
 gW v8 false H2 (zcb dep H2 25 v12 v13) fun v14 H3 =>
 ak (zal v8 v14) fun v15 =>
 br (some v15) (
 ak (zab H3 56 v4) fun v16 =>
 aO (fa env.P false true H3 (⟨(dep+1),29,ab.gen H3 (dep+1) 29,0⟩:Ref) 31 1 (some [(0,v16)])) fun v17 H4 =>
 aO (zbq H4 dep 30 31 31 x3 v17) fun v18 H5 =>
 ak (zae 3 12 1 x12) fun v19 =>
  bT env Tryz.f34 (dep+1) iF [(12,v19),(3,v18),(1,x1),(10,x10),(11,x11)] H5 Q) (
 ak (zae 3 12 1 x12) fun v16 =>
  bT env Tryz.f34 (dep+1) iF [(12,v16),(3,x3),(1,x1),(10,x10),(11,x11)] H3 Q)) (
 Q (.tup [x3,(.v (.int .i64 0))]) H)
theorem qf(dep:Nat)(x12 x3 x1 x10 x11:AV)(H:ab)(Q:AV→ab→Prop)(h : ∀g,eZ dep g x12 x3 x1 x10 x11 H Q):bT env Tryz.f34 (dep+1) iF [(12,x12),(3,x3),(1,x1),(10,x10),(11,x11)] H Q:=dx fun g=>aX (live:=sL) (cut:=sU) (n:=500) (Eq.mp (by kernel_rfl) (h g))
noncomputable def tN:Code:=(Tryz.f35.body).getD .skip
noncomputable def iE:List Item:=(b7 6 400 [.code tN]).getD []
def yK:Nat→Option (List Nat):=fun i=>cond (Nat.beq i 6) (some [28,6,7,26,27]) (none)
def y9:Nat→Bool:=fun i=>false
def pZ(dep:Nat)(g:Nat→AV)(x0 x1:AV)(H:ab)(Q:AV→ab→Prop):Prop :=
 aO (zak H dep 2 29 x0) fun v1 H1 =>
 ak (zab H1 29 v1) fun v2 =>
 aO (bo env true (bj env) (bV env (dep+1)) H1 (⟨(dep+1),11,ab.gen H1 (dep+1) 11,0⟩:Ref) (some (.fn (.func 41) [] [])) [v2]) fun v3 H2 =>
 ak (zaf 23 11 0 v3) fun v4 =>
 gQ v4 false (zbj x1) fun v5 =>
 gQ v4 false (zbc H2 dep 15 31 v5) fun v6 =>
 gQ v4 false (zar 3 15 2048 v6) fun v7 =>
 ak (zal v4 v7) fun v8 =>
 br (some v8) (
 Q (.tup [(.v (.pointer none)),(.v (.bool false))]) H2) (
 ak (zab H2 29 v1) fun v9 =>
 ak (zab H2 29 v1) fun v10 =>
 aO (kN env false (bj env) (bV env (dep+1)) H2 (⟨(dep+1),20,ab.gen H2 (dep+1) 20,0⟩:Ref) (some (.fn (.func 42) [] [])) [v10]) fun v11 H3 =>
 aO (zbm H3 dep 21) fun v12 H4 =>
 aO (zbm H4 dep 22) fun v13 H5 =>
 ak (cK env.P 92 (some [(0,v9),(1,v11),(3,v12),(4,v13)])) fun v14 =>
 aO (zak H5 dep 24 92 v14) fun v15 H6 =>
 aO (bo env true (bj env) (bV env (dep+1)) H6 (⟨(dep+1),25,ab.gen H6 (dep+1) 25,0⟩:Ref) (some (.fn (.func 43) [] [])) []) fun v16 H7 =>
 ak (zbc H7 dep 27 31 x1) fun v17 =>
  bT env Tryz.f35 (dep+1) iE [(28,(.v (.int .i64 0))),(6,v15),(7,v16),(26,x1),(27,v17)] H7 Q)
theorem Fb(dep:Nat)(x0 x1:AV)(H:ab)(Q:AV→ab→Prop)(h : ∀g,pZ dep g x0 x1 H Q):bT env Tryz.f35 (dep+1) [.code tN] [(0,x0),(1,x1)] H Q:=⟨fun g=>aX (live:=yK) (cut:=y9) (n:=500) (Eq.mp (by kernel_rfl) (h g))⟩
def om(dep:Nat)(g:Nat→AV)(x28 x6 x7 x26 x27:AV)(H:ab)(Q:AV→ab→Prop):Prop :=
 ak (zao 3 28 27 x28 x27) fun v1 =>
 br (some v1) (
 ak (zau H 31 x26 x28) fun v2 =>
 ak (zab H 56 v2) fun v3 =>
 aO (zaq H dep 9 56) fun v4 H1 =>
 aO (zam H1 56 v4 v3) fun v5 H2 =>
 ak (zab H2 56 v4) fun v6 =>
 aO (bo env true (bj env) (bV env (dep+1)) H2 (⟨(dep+1),33,ab.gen H2 (dep+1) 33,0⟩:Ref) (some (.fn (.func 44) [] [])) [v6]) fun v7 H3 =>
 ak (zaf 23 33 0 v7) fun v8 =>
 gQ v8 false (zbj x7) fun v9 =>
 gQ v8 false (zad 56 v4 0) fun v10 =>
 gQ v8 false (zab H3 5 v10) fun v11 =>
 gQ v8 false (zbi H3 102 v9 v11) fun v12 =>
 gQ v8 false (zcq 108 v12 0) fun v13 =>
 gQ v8 false (zbj x6) fun v14 =>
 gQ v8 false (zab H3 56 v4) fun v15 =>
 gW v8 false H3 (zbr dep H3 43 v13 v14 v15) fun v16 H4 =>
 gQ v8 false (zbg v16) fun v17 =>
 ak (zal v8 v17) fun v18 =>
 br (some v18) (
 Q (.tup [(.v (.pointer none)),(.v (.bool false))]) H4) (
 ak (zad 56 v4 0) fun v19 =>
 ak (zab H4 5 v19) fun v20 =>
 ak (zbi H4 102 x7 v20) fun v21 =>
 ak (zcq 108 v21 1) fun v22 =>
 ak (zab H4 56 v4) fun v23 =>
 aO (zbr dep H4 53 v22 x6 v23) fun v24 H5 =>
 ak (zcc x6) fun v25 =>
 ak (zad 92 v25 2) fun v26 =>
 ak (zab H5 31 v26) fun v27 =>
 ak (zab H5 56 v4) fun v28 =>
 aO (bo env false (bj env) (bV env (dep+1)) H5 (⟨(dep+1),60,ab.gen H5 (dep+1) 60,0⟩:Ref) (some (.fn (.func 45) [] [])) [v28]) fun v29 H6 =>
 aO (zcg H6 dep 61 31 1 0 v29) fun v30 H7 =>
 aO (zbq H7 dep 62 31 31 v27 v30) fun v31 H8 =>
 ak (zcc x6) fun v32 =>
 ak (zad 92 v32 2) fun v33 =>
 aO (zam H8 31 v33 v31) fun v34 H9 =>
 ak (zae 3 28 1 x28) fun v35 =>
  bT env Tryz.f35 (dep+1) iE [(28,v35),(6,x6),(7,x7),(26,x26),(27,x27)] H9 Q)) (
 Q (.tup [x6,(.v (.bool true))]) H)
theorem qe(dep:Nat)(x28 x6 x7 x26 x27:AV)(H:ab)(Q:AV→ab→Prop)(h : ∀g,om dep g x28 x6 x7 x26 x27 H Q):bT env Tryz.f35 (dep+1) iE [(28,x28),(6,x6),(7,x7),(26,x26),(27,x27)] H Q:=dx fun g=>aX (live:=yK) (cut:=y9) (n:=500) (Eq.mp (by kernel_rfl) (h g))
noncomputable def rH:Code:=(Tryz.f71.body).getD .skip
def yQ:Nat→Option (List Nat):=fun i=>none
def zg:Nat→Bool:=fun i=>false
def rO(dep:Nat)(g:Nat→AV)(x0 x1:AV)(H:ab)(Q:AV→ab→Prop):Prop :=
 aO (zak H dep 3 56 x1) fun v1 H1 =>
 ak (zad 56 v1 2) fun v2 =>
 ak (zad 50 v2 1) fun v3 =>
 ak (zad 40 v3 0) fun v4 =>
 ak (zab H1 35 v4) fun v5 =>
 aO (zce dep H1 13 x0 v5) fun v6 H2 =>
 ak (zbb v6 0) fun v7 =>
 ak (zbb v6 1) fun v8 =>
 ak (zcc x0) fun v9 =>
 ak (zad 92 v9 3) fun v10 =>
 ak (zab H2 88 v10) fun v11 =>
 ak (zad 56 v1 2) fun v12 =>
 ak (zad 50 v12 1) fun v13 =>
 ak (zab H2 40 v13) fun v14 =>
 ak (zbi H2 88 v11 v14) fun v15 =>
 ak (zcq 119 v15 0) fun v16 =>
 ak (zbg v16) fun v17 =>
 gQ v17 true (zbj x0) fun v18 =>
 gQ v17 true (zad 56 v1 1) fun v19 =>
 gQ v17 true (zab H2 3 v19) fun v20 =>
 gQ v17 true (zad 56 v1 2) fun v21 =>
 gQ v17 true (zad 50 v21 1) fun v22 =>
 gQ v17 true (zad 40 v22 0) fun v23 =>
 gQ v17 true (zab H2 35 v23) fun v24 =>
 gW v17 true H2 (bo env true (bj env) (bV env (dep+1)) H2 (⟨(dep+1),34,ab.gen H2 (dep+1) 34,0⟩:Ref) (some (.fn (.func 73) [] [])) [v18,v20,v24]) fun v25 H3 =>
 ak (zag v17 v25) fun v26 =>
 gQ v26 true (zbj v7) fun v27 =>
 ak (zag v26 v27) fun v28 =>
 Q v28 H3
theorem xX(dep:Nat)(x0 x1:AV)(H:ab)(Q:AV→ab→Prop)(h : ∀g,rO dep g x0 x1 H Q):bT env Tryz.f71 (dep+1) [.code rH] [(0,x0),(1,x1)] H Q:=⟨fun g=>aX (live:=yQ) (cut:=zg) (n:=500) (Eq.mp (by kernel_rfl) (h g))⟩
noncomputable def iR:Code:=(Tryz.f72.body).getD .skip
def nu:Nat→Option (List Nat):=fun i=>none
def nB:Nat→Bool:=fun i=>false
def iW(dep:Nat)(g:Nat→AV)(x0 x1:AV)(H:ab)(Q:AV→ab→Prop):Prop :=
 aO (zak H dep 3 35 x1) fun v1 H1 =>
 ak (zcc x0) fun v2 =>
 ak (zad 92 v2 0) fun v3 =>
 ak (zab H1 29 v3) fun v4 =>
 ak (zab H1 35 v1) fun v5 =>
 aO (zbx dep H1 15 v4 v5) fun v6 H2 =>
 ak (zbb v6 0) fun v7 =>
 ak (zbb v6 1) fun v8 =>
 aO (zaq H2 dep 6 76) fun v9 H3 =>
 aO (zam H3 76 v9 v7) fun v10 H4 =>
 ak (zcc x0) fun v11 =>
 ak (zad 92 v11 4) fun v12 =>
 ak (zab H4 89 v12) fun v13 =>
 ak (zab H4 35 v1) fun v14 =>
 ak (zbi H4 89 v13 v14) fun v15 =>
 aO (zaq H4 dep 8 76) fun v16 H5 =>
 aO (zam H5 76 v16 v15) fun v17 H6 =>
 ak (zad 76 v16 1) fun v18 =>
 ak (zab H6 3 v18) fun v19 =>
 ak (zad 76 v9 1) fun v20 =>
 ak (zab H6 3 v20) fun v21 =>
 ak (zao 3 25 27 v19 v21) fun v22 =>
 ak (zad 76 v16 2) fun v23 =>
 ak (zab H6 3 v23) fun v24 =>
 ak (zad 76 v9 2) fun v25 =>
 ak (zab H6 3 v25) fun v26 =>
 ak (zao 3 30 32 v24 v26) fun v27 =>
 Q (.tup [v22,v27]) H6
theorem ni(dep:Nat)(x0 x1:AV)(H:ab)(Q:AV→ab→Prop)(h : ∀g,iW dep g x0 x1 H Q):bT env Tryz.f72 (dep+1) [.code iR] [(0,x0),(1,x1)] H Q:=⟨fun g=>aX (live:=nu) (cut:=nB) (n:=500) (Eq.mp (by kernel_rfl) (h g))⟩
noncomputable def jm:Code:=(Tryz.f73.body).getD .skip
def nN:Nat→Option (List Nat):=fun i=>none
def nW:Nat→Bool:=fun i=>false
def fy(dep:Nat)(g:Nat→AV)(x0 x1 x2:AV)(H:ab)(Q:AV→ab→Prop):Prop :=
 aO (zak H dep 5 35 x2) fun v1 H1 =>
 ak (zcc x0) fun v2 =>
 ak (zad 92 v2 1) fun v3 =>
 ak (zab H1 29 v3) fun v4 =>
 ak (zab H1 35 v1) fun v5 =>
 aO (bo env false (bj env) (bV env (dep+1)) H1 (⟨(dep+1),16,ab.gen H1 (dep+1) 16,0⟩:Ref) (some (.fn (.func 93) [] [])) [v4,x1,v5]) fun v6 H2 =>
 ak (zbb v6 0) fun v7 =>
 ak (zbb v6 1) fun v8 =>
 ak (zai 23 19 0 v8) fun v9 =>
 gQ v9 true (zbj v7) fun v10 =>
 ak (zag v9 v10) fun v11 =>
 Q v11 H2
theorem nF(dep:Nat)(x0 x1 x2:AV)(H:ab)(Q:AV→ab→Prop)(h : ∀g,fy dep g x0 x1 x2 H Q):bT env Tryz.f73 (dep+1) [.code jm] [(0,x0),(1,x1),(2,x2)] H Q:=⟨fun g=>aX (live:=nN) (cut:=nW) (n:=500) (Eq.mp (by kernel_rfl) (h g))⟩
noncomputable def rG:Code:=(Tryz.f74.body).getD .skip
def yP:Nat→Option (List Nat):=fun i=>none
def zf:Nat→Bool:=fun i=>false
def rN(dep:Nat)(g:Nat→AV)(x0 x1:AV)(H:ab)(Q:AV→ab→Prop):Prop :=
 aO (zak H dep 3 56 x1) fun v1 H1 =>
 ak (zcc x0) fun v2 =>
 ak (zad 92 v2 3) fun v3 =>
 ak (zab H1 88 v3) fun v4 =>
 ak (zad 56 v1 2) fun v5 =>
 ak (zad 50 v5 1) fun v6 =>
 ak (zab H1 40 v6) fun v7 =>
 ak (zad 56 v1 1) fun v8 =>
 ak (zab H1 3 v8) fun v9 =>
 ak (cK env.P 119 (some [(0,(.v (.bool true))),(1,v9)])) fun v10 =>
 aO (dO env.P H1 88 (some v4) (some v7) (some v10)) fun v11 H2 =>
 ak (zcc x0) fun v12 =>
 ak (zad 92 v12 4) fun v13 =>
 ak (zab H2 89 v13) fun v14 =>
 ak (zad 56 v1 2) fun v15 =>
 ak (zad 50 v15 1) fun v16 =>
 ak (zad 40 v16 0) fun v17 =>
 ak (zab H2 35 v17) fun v18 =>
 ak (zbi H2 89 v14 v18) fun v19 =>
 aO (zaq H2 dep 4 76) fun v20 H3 =>
 aO (zam H3 76 v20 v19) fun v21 H4 =>
 ak (zad 76 v20 1) fun v22 =>
 ak (zab H4 3 v22) fun v23 =>
 ak (zae 3 25 1 v23) fun v24 =>
 ak (zad 76 v20 1) fun v25 =>
 aO (zam H4 3 v25 v24) fun v26 H5 =>
 ak (zcc x0) fun v27 =>
 ak (zad 92 v27 4) fun v28 =>
 ak (zab H5 89 v28) fun v29 =>
 ak (zad 56 v1 2) fun v30 =>
 ak (zad 50 v30 1) fun v31 =>
 ak (zad 40 v31 0) fun v32 =>
 ak (zab H5 35 v32) fun v33 =>
 ak (zab H5 76 v20) fun v34 =>
 aO (dO env.P H5 89 (some v29) (some v33) (some v34)) fun v35 H6 =>
 Q (.v (.tuple #[])) H6
theorem xW(dep:Nat)(x0 x1:AV)(H:ab)(Q:AV→ab→Prop)(h : ∀g,rN dep g x0 x1 H Q):bT env Tryz.f74 (dep+1) [.code rG] [(0,x0),(1,x1)] H Q:=⟨fun g=>aX (live:=yP) (cut:=zf) (n:=500) (Eq.mp (by kernel_rfl) (h g))⟩
noncomputable def rF:Code:=(Tryz.f75.body).getD .skip
def yO:Nat→Option (List Nat):=fun i=>none
def ze:Nat→Bool:=fun i=>false
def rM(dep:Nat)(g:Nat→AV)(x0 x1:AV)(H:ab)(Q:AV→ab→Prop):Prop :=
 aO (zak H dep 3 56 x1) fun v1 H1 =>
 ak (zcc x0) fun v2 =>
 ak (zad 92 v2 3) fun v3 =>
 ak (zab H1 88 v3) fun v4 =>
 ak (zad 56 v1 2) fun v5 =>
 ak (zad 50 v5 1) fun v6 =>
 ak (zab H1 40 v6) fun v7 =>
 ak (zbi H1 88 v4 v7) fun v8 =>
 aO (zaq H1 dep 5 119) fun v9 H2 =>
 aO (zam H2 119 v9 v8) fun v10 H3 =>
 ak (zad 56 v1 2) fun v11 =>
 ak (zad 50 v11 1) fun v12 =>
 ak (zad 40 v12 0) fun v13 =>
 ak (zab H3 35 v13) fun v14 =>
 aO (zce dep H3 22 x0 v14) fun v15 H4 =>
 ak (zbb v15 0) fun v16 =>
 ak (zbb v15 1) fun v17 =>
 ak (zad 119 v9 0) fun v18 =>
 ak (zab H4 4 v18) fun v19 =>
 gQ v19 true (zbj x0) fun v20 =>
 gQ v19 true (zad 119 v9 1) fun v21 =>
 gQ v19 true (zab H4 3 v21) fun v22 =>
 gQ v19 true (zad 56 v1 2) fun v23 =>
 gQ v19 true (zad 50 v23 1) fun v24 =>
 gQ v19 true (zad 40 v24 0) fun v25 =>
 gQ v19 true (zab H4 35 v25) fun v26 =>
 gW v19 true H4 (kN env true (bj env) (bV env (dep+1)) H4 (⟨(dep+1),35,ab.gen H4 (dep+1) 35,0⟩:Ref) (some (.fn (.func 73) [] [])) [v20,v22,v26]) fun v27 H5 =>
 ak (zag v19 v27) fun v28 =>
 gQ v28 true (zad 56 v1 2) fun v29 =>
 gQ v28 true (zad 50 v29 2) fun v30 =>
 gQ v28 true (zab H5 3 v30) fun v31 =>
 gQ v28 true (zad 119 v9 2) fun v32 =>
 gQ v28 true (zab H5 3 v32) fun v33 =>
 gQ v28 true (zae 3 42 1 v33) fun v34 =>
 gQ v28 true (zap 3 40 43 v31 v34) fun v35 =>
 ak (zag v28 v35) fun v36 =>
 gQ v36 true (zbj v17) fun v37 =>
 ak (zag v36 v37) fun v38 =>
 gQ v38 true (zad 56 v1 3) fun v39 =>
 gQ v38 true (zab H5 23 v39) fun v40 =>
 gQ v38 true (zbj x0) fun v41 =>
 gQ v38 true (zad 56 v1 2) fun v42 =>
 gQ v38 true (zab H5 50 v42) fun v43 =>
 gW v38 true H5 (kN env true (bj env) (bV env (dep+1)) H5 (⟨(dep+1),55,ab.gen H5 (dep+1) 55,0⟩:Ref) (some (.fn (.func 76) [] [])) [v41,v43]) fun v44 H6 =>
 gQ v38 true (zap 23 51 55 v40 v44) fun v45 =>
 ak (zag v38 v45) fun v46 =>
  kH [(v35,v34)] [] [] H6 ∧
 (Q v46 H6)
theorem xV(dep:Nat)(x0 x1:AV)(H:ab)(Q:AV→ab→Prop)(h : ∀g,rM dep g x0 x1 H Q):bT env Tryz.f75 (dep+1) [.code rF] [(0,x0),(1,x1)] H Q:=⟨fun g=>aX (live:=yO) (cut:=ze) (n:=500) (Eq.mp (by kernel_rfl) (h g))⟩
noncomputable def hX:Code:=(Tryz.f76.body).getD .skip
def mg:Nat→Option (List Nat):=fun i=>none
def mi:Nat→Bool:=fun i=>false
def cL(dep:Nat)(g:Nat→AV)(x0 x1:AV)(H:ab)(Q:AV→ab→Prop):Prop :=
 aO (zak H dep 3 50 x1) fun v1 H1 =>
 ak (zcc x0) fun v2 =>
 ak (zad 92 v2 5) fun v3 =>
 ak (zab H1 90 v3) fun v4 =>
 ak (zab H1 50 v1) fun v5 =>
 aO (bo env false (bj env) (bV env (dep+1)) H1 (⟨(dep+1),13,ab.gen H1 (dep+1) 13,0⟩:Ref) (some (.fn (.func 94) [] [])) [v4,v5]) fun v6 H2 =>
 ak (zaf 23 14 0 v6) fun v7 =>
 br (some v7) (
 Q v6 H2) (
 ak (zcc x0) fun v8 =>
 ak (zad 92 v8 0) fun v9 =>
 ak (zab H2 29 v9) fun v10 =>
 ak (zad 50 v1 1) fun v11 =>
 ak (zad 40 v11 0) fun v12 =>
 ak (zab H2 35 v12) fun v13 =>
 aO (zbx dep H2 25 v10 v13) fun v14 H3 =>
 ak (zbb v14 0) fun v15 =>
 ak (zbb v14 1) fun v16 =>
 aO (zaq H3 dep 6 76) fun v17 H4 =>
 aO (zam H4 76 v17 v15) fun v18 H5 =>
 ak (zad 50 v1 0) fun v19 =>
 ak (zab H5 5 v19) fun v20 =>
 ak (zbk 5 29 v20) fun v21 =>
 gQ v21 true (zbj x0) fun v22 =>
 gQ v21 true (zcc v22) fun v23 =>
 gQ v21 true (zad 92 v23 4) fun v24 =>
 gQ v21 true (zab H5 89 v24) fun v25 =>
 gQ v21 true (zad 50 v1 1) fun v26 =>
 gQ v21 true (zad 40 v26 0) fun v27 =>
 gQ v21 true (zab H5 35 v27) fun v28 =>
 gQ v21 true (zbi H5 89 v25 v28) fun v29 =>
 gQ v21 true (zcq 76 v29 3) fun v30 =>
 gQ v21 true (zad 50 v1 3) fun v31 =>
 gQ v21 true (zad 47 v31 1) fun v32 =>
 gQ v21 true (zab H5 3 v32) fun v33 =>
 gQ v21 true (zbd 3 40 43 v30 v33) fun v34 =>
 gQ v21 true (zad 76 v17 3) fun v35 =>
 gQ v21 true (zab H5 3 v35) fun v36 =>
 gQ v21 true (zcl 3 44 46 v34 v36) fun v37 =>
 ak (zag v21 v37) fun v38 =>
 br (some v38) (
 Q (.v (.int .i64 9)) H5) (
 Q (.v (.int .i64 0)) H5))
theorem md(dep:Nat)(x0 x1:AV)(H:ab)(Q:AV→ab→Prop)(h : ∀g,cL dep g x0 x1 H Q):bT env Tryz.f76 (dep+1) [.code hX] [(0,x0),(1,x1)] H Q:=⟨fun g=>aX (live:=mg) (cut:=mi) (n:=500) (Eq.mp (by kernel_rfl) (h g))⟩
noncomputable def n7:Code:=(Tryz.f77.body).getD .skip
def yN:Nat→Option (List Nat):=fun i=>none
def zd:Nat→Bool:=fun i=>false
def gR(dep:Nat)(g:Nat→AV)(x0 x1:AV)(H:ab)(Q:AV→ab→Prop):Prop :=
 aO (zak H dep 3 56 x1) fun v1 H1 =>
 ak (zcc x0) fun v2 =>
 ak (zad 92 v2 3) fun v3 =>
 ak (zab H1 88 v3) fun v4 =>
 ak (zad 56 v1 2) fun v5 =>
 ak (zad 50 v5 1) fun v6 =>
 ak (zab H1 40 v6) fun v7 =>
 ak (zbi H1 88 v4 v7) fun v8 =>
 ak (zcc x0) fun v9 =>
 ak (zad 92 v9 4) fun v10 =>
 ak (zab H1 89 v10) fun v11 =>
 ak (zad 56 v1 2) fun v12 =>
 ak (zad 50 v12 1) fun v13 =>
 ak (zad 40 v13 0) fun v14 =>
 ak (zab H1 35 v14) fun v15 =>
 ak (zbi H1 89 v11 v15) fun v16 =>
 aO (zaq H1 dep 4 119) fun v17 H2 =>
 aO (zaq H2 dep 5 76) fun v18 H3 =>
 aO (zam H3 119 v17 v8) fun v19 H4 =>
 aO (zam H4 76 v18 v16) fun v20 H5 =>
  kH [(v10,v17),(v14,v17),(v11,v17)] [v17,v18] [] H5 ∧
 (ak (zad 119 v17 2) fun v21 =>
 ak (zab H5 3 v21) fun v22 =>
 ak (zae 3 24 1 v22) fun v23 =>
 ak (zad 119 v17 2) fun v24 =>
 aO (zam H5 3 v24 v23) fun v25 H6 =>
 ak (zad 76 v18 2) fun v26 =>
 ak (zab H6 3 v26) fun v27 =>
 ak (zae 3 28 1 v27) fun v28 =>
 ak (zad 76 v18 2) fun v29 =>
 aO (zam H6 3 v29 v28) fun v30 H7 =>
 ak (zad 56 v1 3) fun v31 =>
 ak (zab H7 23 v31) fun v32 =>
 ak (zai 23 32 0 v32) fun v33 =>
 br (some v33) (
 ak (zcc x0) fun v34 =>
 ak (zad 92 v34 5) fun v35 =>
 ak (zab H7 90 v35) fun v36 =>
 ak (zad 56 v1 2) fun v37 =>
 ak (zab H7 50 v37) fun v38 =>
 aO (bo env false (bj env) (bV env (dep+1)) H7 (⟨(dep+1),41,ab.gen H7 (dep+1) 41,0⟩:Ref) (some (.fn (.func 78) [] [])) [v38]) fun v39 H8 =>
 aO (zcg H8 dep 42 90 1 0 v39) fun v40 H9 =>
 aO (zbq H9 dep 43 90 90 v36 v40) fun v41 H10 =>
 ak (zcc x0) fun v42 =>
 ak (zad 92 v42 5) fun v43 =>
 aO (zam H10 90 v43 v41) fun v44 H11 =>
 ak (zad 56 v1 2) fun v45 =>
 ak (zad 50 v45 0) fun v46 =>
 ak (zab H11 5 v46) fun v47 =>
 ak (zbk 5 48 v47) fun v48 =>
 br (some v48) (
 ak (zad 76 v18 3) fun v49 =>
 ak (zab H11 3 v49) fun v50 =>
 ak (zad 56 v1 2) fun v51 =>
 ak (zad 50 v51 3) fun v52 =>
 ak (zad 47 v52 1) fun v53 =>
 ak (zab H11 3 v53) fun v54 =>
 ak (zbd 3 51 55 v50 v54) fun v55 =>
 ak (zad 76 v18 3) fun v56 =>
 aO (zam H11 3 v56 v55) fun v57 H12 =>
 ak (zcc x0) fun v58 =>
 ak (zad 92 v58 3) fun v59 =>
 ak (zab H12 88 v59) fun v60 =>
 ak (zad 56 v1 2) fun v61 =>
 ak (zad 50 v61 1) fun v62 =>
 ak (zab H12 40 v62) fun v63 =>
 ak (zcc x0) fun v64 =>
 ak (zad 92 v64 4) fun v65 =>
 ak (zab H12 89 v65) fun v66 =>
 ak (zad 56 v1 2) fun v67 =>
 ak (zad 50 v67 1) fun v68 =>
 ak (zad 40 v68 0) fun v69 =>
 ak (zab H12 35 v69) fun v70 =>
 ak (zab H12 119 v17) fun v71 =>
 ak (zab H12 76 v18) fun v72 =>
 aO (zcp H12 88 v60 v63) fun v73 H13 =>
 ak (zbb v73 1) fun v74 =>
 aO (zco H13 v60 v74 v71) fun v75 H14 =>
 aO (zcp H14 89 v66 v70) fun v76 H15 =>
 ak (zbb v76 1) fun v77 =>
 aO (zco H15 v66 v77 v72) fun v78 H16 =>
  kH [(v69,v60),(v17,v60),(v18,v60),(v18,v66)] [] [] H16 ∧
 (Q (.v (.tuple #[])) H16)) (
 ak (zcc x0) fun v49 =>
 ak (zad 92 v49 3) fun v50 =>
 ak (zab H11 88 v50) fun v51 =>
 ak (zad 56 v1 2) fun v52 =>
 ak (zad 50 v52 1) fun v53 =>
 ak (zab H11 40 v53) fun v54 =>
 ak (zcc x0) fun v55 =>
 ak (zad 92 v55 4) fun v56 =>
 ak (zab H11 89 v56) fun v57 =>
 ak (zad 56 v1 2) fun v58 =>
 ak (zad 50 v58 1) fun v59 =>
 ak (zad 40 v59 0) fun v60 =>
 ak (zab H11 35 v60) fun v61 =>
 ak (zab H11 119 v17) fun v62 =>
 ak (zab H11 76 v18) fun v63 =>
 aO (zcp H11 88 v51 v54) fun v64 H12 =>
 ak (zbb v64 1) fun v65 =>
 aO (zco H12 v51 v65 v62) fun v66 H13 =>
 aO (zcp H13 89 v57 v61) fun v67 H14 =>
 ak (zbb v67 1) fun v68 =>
 aO (zco H14 v57 v68 v63) fun v69 H15 =>
  kH [(v60,v51),(v17,v51),(v18,v51),(v18,v57)] [] [] H15 ∧
 (Q (.v (.tuple #[])) H15))) (
 ak (zcc x0) fun v34 =>
 ak (zad 92 v34 3) fun v35 =>
 ak (zab H7 88 v35) fun v36 =>
 ak (zad 56 v1 2) fun v37 =>
 ak (zad 50 v37 1) fun v38 =>
 ak (zab H7 40 v38) fun v39 =>
 ak (zcc x0) fun v40 =>
 ak (zad 92 v40 4) fun v41 =>
 ak (zab H7 89 v41) fun v42 =>
 ak (zad 56 v1 2) fun v43 =>
 ak (zad 50 v43 1) fun v44 =>
 ak (zad 40 v44 0) fun v45 =>
 ak (zab H7 35 v45) fun v46 =>
 ak (zab H7 119 v17) fun v47 =>
 ak (zab H7 76 v18) fun v48 =>
 aO (zcp H7 88 v36 v39) fun v49 H8 =>
 ak (zbb v49 1) fun v50 =>
 aO (zco H8 v36 v50 v47) fun v51 H9 =>
 aO (zcp H9 89 v42 v46) fun v52 H10 =>
 ak (zbb v52 1) fun v53 =>
 aO (zco H10 v42 v53 v48) fun v54 H11 =>
  kH [(v45,v36),(v17,v36),(v18,v36),(v18,v42)] [] [] H11 ∧
 (Q (.v (.tuple #[])) H11)))
theorem qX(dep:Nat)(x0 x1:AV)(H:ab)(Q:AV→ab→Prop)(h : ∀g,gR dep g x0 x1 H Q):bT env Tryz.f77 (dep+1) [.code n7] [(0,x0),(1,x1)] H Q:=⟨fun g=>aX (live:=yN) (cut:=zd) (n:=500) (Eq.mp (by kernel_rfl) (h g))⟩
noncomputable def rE:Code:=(Tryz.f79.body).getD .skip
def yM:Nat→Option (List Nat):=fun i=>none
def zb:Nat→Bool:=fun i=>false
def oo(dep:Nat)(g:Nat→AV)(x0 x1:AV)(H:ab)(Q:AV→ab→Prop):Prop :=
 aO (zak H dep 3 56 x1) fun v1 H1 =>
 ak (zcc x0) fun v2 =>
 ak (zad 92 v2 1) fun v3 =>
 ak (zab H1 29 v3) fun v4 =>
 ak (zad 56 v1 4) fun v5 =>
 ak (zab H1 54 v5) fun v6 =>
 aO (zby dep H1 14 v4 v6) fun v7 H2 =>
 ak (zbb v7 0) fun v8 =>
 ak (zbb v7 1) fun v9 =>
 aO (zaq H2 dep 5 29) fun v10 H3 =>
 aO (zam H3 29 v10 v8) fun v11 H4 =>
 ak (zai 23 17 0 v9) fun v12 =>
 Q v12 H4
theorem xU(dep:Nat)(x0 x1:AV)(H:ab)(Q:AV→ab→Prop)(h : ∀g,oo dep g x0 x1 H Q):bT env Tryz.f79 (dep+1) [.code rE] [(0,x0),(1,x1)] H Q:=⟨fun g=>aX (live:=yM) (cut:=zb) (n:=500) (Eq.mp (by kernel_rfl) (h g))⟩
noncomputable def rD:Code:=(Tryz.f81.body).getD .skip
def yL:Nat→Option (List Nat):=fun i=>none
def za:Nat→Bool:=fun i=>false
def rL(dep:Nat)(g:Nat→AV)(x0 x1:AV)(H:ab)(Q:AV→ab→Prop):Prop :=
 aO (zak H dep 3 56 x1) fun v1 H1 =>
 ak (zcc x0) fun v2 =>
 ak (zad 92 v2 1) fun v3 =>
 ak (zab H1 29 v3) fun v4 =>
 ak (zad 56 v1 4) fun v5 =>
 ak (zab H1 54 v5) fun v6 =>
 aO (zby dep H1 12 v4 v6) fun v7 H2 =>
 ak (zbb v7 0) fun v8 =>
 ak (zbb v7 1) fun v9 =>
 ak (zcc x0) fun v10 =>
 ak (zad 92 v10 1) fun v11 =>
 aO (zam H2 29 v11 v8) fun v12 H3 =>
 Q (.v (.tuple #[])) H3
theorem xT(dep:Nat)(x0 x1:AV)(H:ab)(Q:AV→ab→Prop)(h : ∀g,rL dep g x0 x1 H Q):bT env Tryz.f81 (dep+1) [.code rD] [(0,x0),(1,x1)] H Q:=⟨fun g=>aX (live:=yL) (cut:=za) (n:=500) (Eq.mp (by kernel_rfl) (h g))⟩
end Go.Proofs.YtdbiffjdomokfaaGreat
