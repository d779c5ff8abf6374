/-
  What is to be shown of each function, computed from its code. No statement of a seat is proved here.
-/
import Derived.Test.YtmkmimgokagimaaGreatLeTy
set_option linter.unusedVariables false
set_option maxRecDepth 1000000
namespace Go.Proofs.YtmkmimgokagimaaGreat
open Go.Ab
noncomputable def jQ:Code:=(Tryz.f13.body).getD .skip
noncomputable def eR:List Item:=(cE 3 400 [.code jQ]).getD []
def nx:Nat→Option (List Nat):=fun i=>cond (Nat.beq i 3) (some [8,1,7,2,3]) (none)
def nD:Nat→Bool:=fun i=>false
def jR(g:Nat→AV)(x0 x1 x2:AV)(H:ad)(Q:AV→ad→Prop):Prop :=
 aL (zac H 3 25 x0) fun v1 H1 =>
  b7 env Tryz.f13 0 eR [(8,(.v (.int .i64 0))),(1,x1),(7,(.v (.int .i64 0))),(2,x2),(3,v1)] H1 Q
theorem uH(x0 x1 x2:AV)(H:ad)(Q:AV→ad→Prop)(h : ∀g,jR g x0 x1 x2 H Q):b7 env Tryz.f13 0 [.code jQ] [(0,x0),(1,x1),(2,x2)] H Q:=⟨fun g=>bc (live:=nx) (cut:=nD) (n:=500) (Eq.mp (by kernel_rfl) (h g))⟩
def fD(g:Nat→AV)(x8 x1 x7 x2 x3:AV)(H:ad)(Q:AV→ad→Prop):Prop :=
 ak (zai H 11 26 x1) fun v1 =>
 ak (zap 3 9 11 x8 v1) fun v2 =>
 gQ v2 true (zbj x8) fun v3 =>
 gQ v2 true (zas 3 14 300 v3) fun v4 =>
 ak (zag v2 v4) fun v5 =>
 br (some v5) (
 ak (zau H 26 x1 x8) fun v6 =>
 ak (zad 62 v6 2) fun v7 =>
 ak (zad 38 v7 3) fun v8 =>
 ak (zad 35 v8 1) fun v9 =>
 ak (zab H 3 v9) fun v10 =>
 ak (aU env.P true (ad.get H) (Ref.mk 0 27 (ad.gen H 0 27) 0) .max #[3,3] [v10,(.v (.int .i64 0))]) fun v11 =>
 ak (aU env.P true (ad.get H) (Ref.mk 0 28 (ad.gen H 0 28) 0) .min #[3,3] [v11,(.v (.int .i64 100))]) fun v12 =>
 ak (zau H 26 x1 x8) fun v13 =>
 ak (zad 62 v13 2) fun v14 =>
 ak (zad 38 v14 6) fun v15 =>
 ak (zab H 36 v15) fun v16 =>
 ak (zai H 35 36 v16) fun v17 =>
 ak (aU env.P true (ad.get H) (Ref.mk 0 36 (ad.gen H 0 36) 0) .min #[3,3] [v17,(.v (.int .i64 1000))]) fun v18 =>
 ak (zcj H 37 3 3 v12 v18) fun v19 =>
 ak (zbf 3 19 37 x7 v19) fun v20 =>
 ak (zaf 3 17 1 x8) fun v21 =>
  b7 env Tryz.f13 0 eR [(8,v21),(1,x1),(7,v20),(2,x2),(3,x3)] H Q) (
 ak (zab H 25 x3) fun v6 =>
 aL (zaa true H 40 63 [v6]) fun v7 H1 =>
 gQ v7 false (zbj x1) fun v8 =>
 gQ v7 false (zai H1 43 26 v8) fun v9 =>
 gQ v7 false (zbj x2) fun v10 =>
 gQ v7 false (zco 3 43 44 v9 v10) fun v11 =>
 ak (zam v7 v11) fun v12 =>
 gQ v12 false (zbj x7) fun v13 =>
 gQ v12 false (zar 3 48 300 v13) fun v14 =>
 ak (zam v12 v14) fun v15 =>
 Q v15 H1)
theorem mi(x8 x1 x7 x2 x3:AV)(H:ad)(Q:AV→ad→Prop)(h : ∀g,fD g x8 x1 x7 x2 x3 H Q):b7 env Tryz.f13 0 eR [(8,x8),(1,x1),(7,x7),(2,x2),(3,x3)] H Q:=dG fun g=>bc (live:=nx) (cut:=nD) (n:=500) (Eq.mp (by kernel_rfl) (h g))
noncomputable def tP:Code:=(Tryz.f17.body).getD .skip
def Bg:Nat→Option (List Nat):=fun i=>none
def BL:Nat→Bool:=fun i=>false
def uq(g:Nat→AV)(x0 x1 x2:AV)(H:ad)(Q:AV→ad→Prop):Prop :=
 aL (zac H 3 25 x0) fun v1 H1 =>
 aL (zac H1 5 38 x2) fun v2 H2 =>
 ak (zab H2 25 v1) fun v3 =>
 ak (zab H2 38 v2) fun v4 =>
 aL (zaa false H2 11 70 [v4]) fun v5 H3 =>
 ak (fp (.func 71) (some []) (some [v2])) fun v6 =>
 aL (zaa true H3 13 69 [v3,x1,v5,v6]) fun v7 H4 =>
 ak (zaw v7 0) fun v8 =>
 ak (zaw v7 1) fun v9 =>
 Q (.tup [v8,v9]) H4
theorem Az(x0 x1 x2:AV)(H:ad)(Q:AV→ad→Prop)(h : ∀g,uq g x0 x1 x2 H Q):b7 env Tryz.f17 0 [.code tP] [(0,x0),(1,x1),(2,x2)] H Q:=⟨fun g=>bc (live:=Bg) (cut:=BL) (n:=500) (Eq.mp (by kernel_rfl) (h g))⟩
noncomputable def yw:Code:=(Tryz.f19.body).getD .skip
def Fi:Nat→Option (List Nat):=fun i=>none
def FX:Nat→Bool:=fun i=>false
def yH(g:Nat→AV)(x0 x1 x2:AV)(H:ad)(Q:AV→ad→Prop):Prop :=
 aL (zac H 3 25 x0) fun v1 H1 =>
 aL (zac H1 5 29 x2) fun v2 H2 =>
 ak (zab H2 25 v1) fun v3 =>
 ak (zab H2 29 v2) fun v4 =>
 aL (zaa false H2 11 76 [v4]) fun v5 H3 =>
 ak (fp (.func 77) (some []) (some [v2])) fun v6 =>
 aL (zaa true H3 13 75 [v3,x1,v5,v6]) fun v7 H4 =>
 ak (zaw v7 0) fun v8 =>
 ak (zaw v7 1) fun v9 =>
 Q (.tup [v8,v9]) H4
theorem EA(x0 x1 x2:AV)(H:ad)(Q:AV→ad→Prop)(h : ∀g,yH g x0 x1 x2 H Q):b7 env Tryz.f19 0 [.code yw] [(0,x0),(1,x1),(2,x2)] H Q:=⟨fun g=>bc (live:=Fi) (cut:=FX) (n:=500) (Eq.mp (by kernel_rfl) (h g))⟩
noncomputable def vQ:Code:=(Tryz.f25.body).getD .skip
def Cz:Nat→Option (List Nat):=fun i=>none
def CQ:Nat→Bool:=fun i=>false
def vX(g:Nat→AV)(x0 x1:AV)(H:ad)(Q:AV→ad→Prop):Prop :=
 aL (zac H 2 25 x0) fun v1 H1 =>
 aL (zah H1 4 25) fun v2 H2 =>
 ak (zab H2 25 v1) fun v3 =>
 aL (zaa true H2 8 87 [v3,x1,(.v (.int .i64 0)),(.fn (.func 88) [] [])]) fun v4 H3 =>
 ak (zaw v4 0) fun v5 =>
 ak (zaw v4 1) fun v6 =>
 aL (zal H3 25 v2 v5) fun v7 H4 =>
 ak (zbt H4 v2 25) fun v8 =>
 Q (.tup [v8,v6]) H4
theorem Cg(x0 x1:AV)(H:ad)(Q:AV→ad→Prop)(h : ∀g,vX g x0 x1 H Q):b7 env Tryz.f25 0 [.code vQ] [(0,x0),(1,x1)] H Q:=⟨fun g=>bc (live:=Cz) (cut:=CQ) (n:=500) (Eq.mp (by kernel_rfl) (h g))⟩
noncomputable def tQ:Code:=(Tryz.f27.body).getD .skip
def Bh:Nat→Option (List Nat):=fun i=>none
def BM:Nat→Bool:=fun i=>false
def ur(g:Nat→AV)(x0 x1 x2:AV)(H:ad)(Q:AV→ad→Prop):Prop :=
 aL (zac H 3 25 x0) fun v1 H1 =>
 aL (zac H1 5 31 x2) fun v2 H2 =>
 aL (zah H2 6 73) fun v3 H3 =>
 ak (zab H3 25 v1) fun v4 =>
 ak (zab H3 31 v2) fun v5 =>
 aL (zaa false H3 11 91 [v5]) fun v6 H4 =>
 ak (fp (.func 92) (some []) (some [v2])) fun v7 =>
 aL (zaa true H4 13 90 [v4,x1,v6,v7]) fun v8 H5 =>
 ak (zaw v8 0) fun v9 =>
 ak (zaw v8 1) fun v10 =>
 aL (zal H5 73 v3 v9) fun v11 H6 =>
 ak (zbt H6 v3 73) fun v12 =>
 Q (.tup [v12,v10]) H6
theorem AA(x0 x1 x2:AV)(H:ad)(Q:AV→ad→Prop)(h : ∀g,ur g x0 x1 x2 H Q):b7 env Tryz.f27 0 [.code tQ] [(0,x0),(1,x1),(2,x2)] H Q:=⟨fun g=>bc (live:=Bh) (cut:=BM) (n:=500) (Eq.mp (by kernel_rfl) (h g))⟩
noncomputable def yx:Code:=(Tryz.f29.body).getD .skip
def Fj:Nat→Option (List Nat):=fun i=>none
def FY:Nat→Bool:=fun i=>false
def yI(g:Nat→AV)(x0 x1 x2 x3:AV)(H:ad)(Q:AV→ad→Prop):Prop :=
 aL (zac H 4 25 x0) fun v1 H1 =>
 aL (zac H1 6 31 x2) fun v2 H2 =>
 aL (zac H2 7 3 x3) fun v3 H3 =>
 ak (zab H3 25 v1) fun v4 =>
 ak (zab H3 31 v2) fun v5 =>
 aL (zaa false H3 13 91 [v5]) fun v6 H4 =>
 ak (fp (.func 95) (some []) (some [v2,v3])) fun v7 =>
 aL (zaa true H4 15 69 [v4,x1,v6,v7]) fun v8 H5 =>
 ak (zaw v8 0) fun v9 =>
 ak (zaw v8 1) fun v10 =>
 Q (.tup [v9,v10]) H5
theorem EB(x0 x1 x2 x3:AV)(H:ad)(Q:AV→ad→Prop)(h : ∀g,yI g x0 x1 x2 x3 H Q):b7 env Tryz.f29 0 [.code yx] [(0,x0),(1,x1),(2,x2),(3,x3)] H Q:=⟨fun g=>bc (live:=Fj) (cut:=FY) (n:=500) (Eq.mp (by kernel_rfl) (h g))⟩
noncomputable def yv:Code:=(Tryz.f31.body).getD .skip
def Fh:Nat→Option (List Nat):=fun i=>none
def FV:Nat→Bool:=fun i=>false
def yG(g:Nat→AV)(x0 x1 x2:AV)(H:ad)(Q:AV→ad→Prop):Prop :=
 aL (zac H 3 25 x0) fun v1 H1 =>
 aL (zac H1 5 29 x2) fun v2 H2 =>
 aL (zah H2 6 81) fun v3 H3 =>
 ak (zab H3 25 v1) fun v4 =>
 ak (zab H3 29 v2) fun v5 =>
 aL (zaa false H3 11 76 [v5]) fun v6 H4 =>
 ak (fp (.func 98) (some []) (some [v2])) fun v7 =>
 aL (zaa true H4 13 97 [v4,x1,v6,v7]) fun v8 H5 =>
 ak (zaw v8 0) fun v9 =>
 ak (zaw v8 1) fun v10 =>
 aL (zal H5 81 v3 v9) fun v11 H6 =>
 ak (zbt H6 v3 81) fun v12 =>
 Q (.tup [v12,v10]) H6
theorem Ez(x0 x1 x2:AV)(H:ad)(Q:AV→ad→Prop)(h : ∀g,yG g x0 x1 x2 H Q):b7 env Tryz.f31 0 [.code yv] [(0,x0),(1,x1),(2,x2)] H Q:=⟨fun g=>bc (live:=Fh) (cut:=FV) (n:=500) (Eq.mp (by kernel_rfl) (h g))⟩
noncomputable def hY:Code:=(Tryz.f69.body).getD .skip
def mL:Nat→Option (List Nat):=fun i=>none
def mS:Nat→Bool:=fun i=>false
def ig(dep:Nat)(g:Nat→AV)(x0 x1 x2 x3:AV)(H:ad)(Q:AV→ad→Prop):Prop :=
 aL (zaj H dep 4 25 x0) fun v1 H1 =>
 ak (zab H1 25 v1) fun v2 =>
 aL (zbe dep H1 15 v2 x1) fun v3 H2 =>
 ak (zaw v3 0) fun v4 =>
 ak (zaw v3 1) fun v5 =>
 ak (zbb v5) fun v6 =>
 br (some v6) (
 Q (.tup [(.v (.int .i64 0)),(.v (.int .i64 8))]) H2) (
 ak (zae 42 21 0 x2) fun v7 =>
 br (some v7) (
 Q (.tup [(.v (.int .i64 0)),x2]) H2) (
 aL (zbd dep H2 27 x3 v4) fun v8 H3 =>
 ak (zaw v8 0) fun v9 =>
 ak (zaw v8 1) fun v10 =>
 Q (.tup [v9,v10]) H3))
theorem mI(dep:Nat)(x0 x1 x2 x3:AV)(H:ad)(Q:AV→ad→Prop)(h : ∀g,ig dep g x0 x1 x2 x3 H Q):b7 env Tryz.f69 (dep+1) [.code hY] [(0,x0),(1,x1),(2,x2),(3,x3)] H Q:=⟨fun g=>bc (live:=mL) (cut:=mS) (n:=500) (Eq.mp (by kernel_rfl) (h g))⟩
noncomputable def qS:Code:=(Tryz.f71.body).getD .skip
def zf:Nat→Option (List Nat):=fun i=>none
def zh:Nat→Bool:=fun i=>false
def qU(dep:Nat)(g:Nat→AV)(x0 x1:AV)(H:ad)(Q:AV→ad→Prop):Prop :=
 ak (zab H 38 x1) fun v1 =>
 aL (bo env true (bj env) (bO env (dep+1)) H (⟨(dep+1),7,ad.gen H (dep+1) 7,0⟩:Ref) (some (.fn (.func 72) [] [])) [x0,v1]) fun v2 H1 =>
 Q (.tup [v2,(.v (.int .i64 0))]) H1
theorem zb(dep:Nat)(x0 x1:AV)(H:ad)(Q:AV→ad→Prop)(h : ∀g,qU dep g x0 x1 H Q):b7 env Tryz.f71 (dep+1) [.code qS] [(0,x0),(1,x1)] H Q:=⟨fun g=>bc (live:=zf) (cut:=zh) (n:=500) (Eq.mp (by kernel_rfl) (h g))⟩
noncomputable def iy:Code:=(Tryz.f72.body).getD .skip
def nc:Nat→Option (List Nat):=fun i=>none
def ng:Nat→Bool:=fun i=>false
def cM(dep:Nat)(g:Nat→AV)(x0 x1:AV)(H:ad)(Q:AV→ad→Prop):Prop :=
 aL (zaj H dep 3 38 x1) fun v1 H1 =>
 ak (zby x0) fun v2 =>
 ak (zad 129 v2 5) fun v3 =>
 ak (zab H1 41 v3) fun v4 =>
 ak (zab H1 38 v1) fun v5 =>
 aL (bo env false (bj env) (bO env (dep+1)) H1 (⟨(dep+1),13,ad.gen H1 (dep+1) 13,0⟩:Ref) (some (.fn (.func 137) [] [])) [v4,v5]) fun v6 H2 =>
 ak (zae 42 14 0 v6) fun v7 =>
 br (some v7) (
 Q v6 H2) (
 ak (zby x0) fun v8 =>
 ak (zad 129 v8 0) fun v9 =>
 ak (zab H2 25 v9) fun v10 =>
 ak (zad 38 v1 1) fun v11 =>
 ak (zad 31 v11 0) fun v12 =>
 ak (zab H2 29 v12) fun v13 =>
 aL (zcb dep H2 25 v10 v13) fun v14 H3 =>
 ak (zaw v14 0) fun v15 =>
 ak (zaw v14 1) fun v16 =>
 aL (zao H3 dep 6 81) fun v17 H4 =>
 aL (zal H4 81 v17 v15) fun v18 H5 =>
 ak (zad 38 v1 0) fun v19 =>
 ak (zab H5 5 v19) fun v20 =>
 ak (zbk 5 29 v20) fun v21 =>
 gQ v21 true (zbj x0) fun v22 =>
 gQ v21 true (zby v22) fun v23 =>
 gQ v21 true (zad 129 v23 4) fun v24 =>
 gQ v21 true (zab H5 127 v24) fun v25 =>
 gQ v21 true (zad 38 v1 1) fun v26 =>
 gQ v21 true (zad 31 v26 0) fun v27 =>
 gQ v21 true (zab H5 29 v27) fun v28 =>
 gQ v21 true (zbi H5 127 v25 v28) fun v29 =>
 gQ v21 true (pV env.P 81 (some v29) 3) fun v30 =>
 gQ v21 true (zad 38 v1 3) fun v31 =>
 gQ v21 true (zad 35 v31 1) fun v32 =>
 gQ v21 true (zab H5 3 v32) fun v33 =>
 gQ v21 true (zbf 3 40 43 v30 v33) fun v34 =>
 gQ v21 true (zad 81 v17 3) fun v35 =>
 gQ v21 true (zab H5 3 v35) fun v36 =>
 gQ v21 true (zco 3 44 46 v34 v36) fun v37 =>
 ak (zag v21 v37) fun v38 =>
 br (some v38) (
 Q (.v (.int .i64 9)) H5) (
 Q (.v (.int .i64 0)) H5))
theorem m7(dep:Nat)(x0 x1:AV)(H:ad)(Q:AV→ad→Prop)(h : ∀g,cM dep g x0 x1 H Q):b7 env Tryz.f72 (dep+1) [.code iy] [(0,x0),(1,x1)] H Q:=⟨fun g=>bc (live:=nc) (cut:=ng) (n:=500) (Eq.mp (by kernel_rfl) (h g))⟩
noncomputable def gh:Code:=(Tryz.f75.body).getD .skip
def lU:Nat→Option (List Nat):=fun i=>none
def lV:Nat→Bool:=fun i=>false
def gk(dep:Nat)(g:Nat→AV)(x0 x1 x2 x3:AV)(H:ad)(Q:AV→ad→Prop):Prop :=
 aL (zaj H dep 4 25 x0) fun v1 H1 =>
 ak (zab H1 25 v1) fun v2 =>
 aL (zbe dep H1 15 v2 x1) fun v3 H2 =>
 ak (zaw v3 0) fun v4 =>
 ak (zaw v3 1) fun v5 =>
 ak (zbb v5) fun v6 =>
 br (some v6) (
 Q (.tup [(.v (.slice none 0 0)),(.v (.int .i64 8))]) H2) (
 ak (zae 42 21 0 x2) fun v7 =>
 br (some v7) (
 Q (.tup [(.v (.slice none 0 0)),x2]) H2) (
 aL (zbd dep H2 27 x3 v4) fun v8 H3 =>
 ak (zaw v8 0) fun v9 =>
 ak (zaw v8 1) fun v10 =>
 Q (.tup [v9,v10]) H3))
theorem lT(dep:Nat)(x0 x1 x2 x3:AV)(H:ad)(Q:AV→ad→Prop)(h : ∀g,gk dep g x0 x1 x2 x3 H Q):b7 env Tryz.f75 (dep+1) [.code gh] [(0,x0),(1,x1),(2,x2),(3,x3)] H Q:=⟨fun g=>bc (live:=lU) (cut:=lV) (n:=500) (Eq.mp (by kernel_rfl) (h g))⟩
noncomputable def p9:Code:=(Tryz.f77.body).getD .skip
noncomputable def iW:List Item:=(cE 2 400 [.code p9]).getD []
def vq:Nat→Option (List Nat):=fun i=>cond (Nat.beq i 2) (some [12,3,1,10,11]) (none)
def vH:Nat→Bool:=fun i=>false
def vY(dep:Nat)(g:Nat→AV)(x0 x1:AV)(H:ad)(Q:AV→ad→Prop):Prop :=
 ak (zby x0) fun v1 =>
 ak (zad 129 v1 2) fun v2 =>
 ak (zab H 26 v2) fun v3 =>
 ak (zba H dep 11 26 v3) fun v4 =>
  b7 env Tryz.f77 (dep+1) iW [(12,(.v (.int .i64 0))),(3,(.v (.slice none 0 0))),(1,x1),(10,v3),(11,v4)] H Q
theorem Ch(dep:Nat)(x0 x1:AV)(H:ad)(Q:AV→ad→Prop)(h : ∀g,vY dep g x0 x1 H Q):b7 env Tryz.f77 (dep+1) [.code p9] [(0,x0),(1,x1)] H Q:=⟨fun g=>bc (live:=vq) (cut:=vH) (n:=500) (Eq.mp (by kernel_rfl) (h g))⟩
def fh(dep:Nat)(g:Nat→AV)(x12 x3 x1 x10 x11:AV)(H:ad)(Q:AV→ad→Prop):Prop :=
 ak (zap 3 12 11 x12 x11) fun v1 =>
 br (some v1) (
 ak (zau H 26 x10 x12) fun v2 =>
 ak (zab H 62 v2) fun v3 =>
 aL (zao H dep 6 62) fun v4 H1 =>
 aL (zal H1 62 v4 v3) fun v5 H2 =>
 ak (zad 62 v4 0) fun v6 =>
 ak (zab H2 5 v6) fun v7 =>
 ak (zbq 5 17 v7) fun v8 =>
 gQ v8 false (zad 62 v4 2) fun v9 =>
 gQ v8 false (zad 38 v9 1) fun v10 =>
 gQ v8 false (zad 31 v10 0) fun v11 =>
 gQ v8 false (zab H2 29 v11) fun v12 =>
 gQ v8 false (zab H2 29 x1) fun v13 =>
 gW v8 false H2 (zcf dep H2 25 v12 v13) fun v14 H3 =>
 ak (zam v8 v14) fun v15 =>
 br (some v15) (
 ak (zab H3 62 v4) fun v16 =>
 aL (fu env.P false true H3 (⟨(dep+1),29,ad.gen H3 (dep+1) 29,0⟩:Ref) 26 1 (some [(0,v16)])) fun v17 H4 =>
 aL (zbu H4 dep 30 26 26 x3 v17) fun v18 H5 =>
 ak (zaf 3 12 1 x12) fun v19 =>
  b7 env Tryz.f77 (dep+1) iW [(12,v19),(3,v18),(1,x1),(10,x10),(11,x11)] H5 Q) (
 ak (zaf 3 12 1 x12) fun v16 =>
  b7 env Tryz.f77 (dep+1) iW [(12,v16),(3,x3),(1,x1),(10,x10),(11,x11)] H3 Q)) (
 Q (.tup [x3,(.v (.int .i64 0))]) H)
theorem rK(dep:Nat)(x12 x3 x1 x10 x11:AV)(H:ad)(Q:AV→ad→Prop)(h : ∀g,fh dep g x12 x3 x1 x10 x11 H Q):b7 env Tryz.f77 (dep+1) iW [(12,x12),(3,x3),(1,x1),(10,x10),(11,x11)] H Q:=dG fun g=>bc (live:=vq) (cut:=vH) (n:=500) (Eq.mp (by kernel_rfl) (h g))
noncomputable def oB:Code:=(Tryz.f80.body).getD .skip
def vv:Nat→Option (List Nat):=fun i=>none
def vK:Nat→Bool:=fun i=>false
def eP(g:Nat→AV)(x0 x1:AV)(H:ad)(Q:AV→ad→Prop):Prop :=
 aL (zac H 2 62 x0) fun v1 H1 =>
 aL (zac H1 3 62 x1) fun v2 H2 =>
 ak (zad 62 v1 0) fun v3 =>
 ak (zab H2 5 v3) fun v4 =>
 ak (zad 62 v2 0) fun v5 =>
 ak (zab H2 5 v5) fun v6 =>
 ak (zan 5 6 8 v4 v6) fun v7 =>
 gQ v7 true (zad 62 v1 1) fun v8 =>
 gQ v7 true (zab H2 3 v8) fun v9 =>
 gQ v7 true (zad 62 v2 1) fun v10 =>
 gQ v7 true (zab H2 3 v10) fun v11 =>
 gQ v7 true (zan 3 12 14 v9 v11) fun v12 =>
 ak (zag v7 v12) fun v13 =>
 gQ v13 true (zad 62 v1 2) fun v14 =>
 gQ v13 true (zab H2 38 v14) fun v15 =>
 gQ v13 true (zad 62 v2 2) fun v16 =>
 gQ v13 true (zab H2 38 v16) fun v17 =>
 gW v13 true H2 (zaa true H2 22 62 [v15,v17]) fun v18 H3 =>
 ak (zag v13 v18) fun v19 =>
 gQ v19 true (zad 62 v1 3) fun v20 =>
 gQ v19 true (zab H3 42 v20) fun v21 =>
 gQ v19 true (zad 62 v2 3) fun v22 =>
 gQ v19 true (zab H3 42 v22) fun v23 =>
 gQ v19 true (zan 42 26 28 v21 v23) fun v24 =>
 ak (zag v19 v24) fun v25 =>
 gQ v25 true (zad 62 v1 4) fun v26 =>
 gQ v25 true (zab H3 60 v26) fun v27 =>
 gQ v25 true (zad 62 v2 4) fun v28 =>
 gQ v25 true (zab H3 60 v28) fun v29 =>
 gQ v25 true (zan 60 33 35 v27 v29) fun v30 =>
 ak (zag v25 v30) fun v31 =>
 Q v31 H3
theorem u9(x0 x1:AV)(H:ad)(Q:AV→ad→Prop)(h : ∀g,eP g x0 x1 H Q):b7 env Tryz.f80 0 [.code oB] [(0,x0),(1,x1)] H Q:=⟨fun g=>bc (live:=vv) (cut:=vK) (n:=500) (Eq.mp (by kernel_rfl) (h g))⟩
noncomputable def gS:Code:=(Tryz.f87.body).getD .skip
def mu:Nat→Option (List Nat):=fun i=>none
def mD:Nat→Bool:=fun i=>false
def gU(dep:Nat)(g:Nat→AV)(x0 x1 x2 x3:AV)(H:ad)(Q:AV→ad→Prop):Prop :=
 aL (zaj H dep 4 25 x0) fun v1 H1 =>
 aL (zao H1 dep 8 25) fun v2 H2 =>
 ak (zab H2 25 v1) fun v3 =>
 aL (zbe dep H2 15 v3 x1) fun v4 H3 =>
 ak (zaw v4 0) fun v5 =>
 ak (zaw v4 1) fun v6 =>
 ak (zbb v6) fun v7 =>
 br (some v7) (
 ak (zab H3 25 v2) fun v8 =>
 aL (zal H3 25 v2 v8) fun v9 H4 =>
 ak (zbt H4 v2 25) fun v10 =>
 Q (.tup [v10,(.v (.int .i64 8))]) H4) (
 ak (zae 42 21 0 x2) fun v8 =>
 br (some v8) (
 ak (zab H3 25 v2) fun v9 =>
 aL (zal H3 25 v2 v9) fun v10 H4 =>
 ak (zbt H4 v2 25) fun v11 =>
 Q (.tup [v11,x2]) H4) (
 aL (zbd dep H3 27 x3 v5) fun v9 H4 =>
 ak (zaw v9 0) fun v10 =>
 ak (zaw v9 1) fun v11 =>
 aL (zal H4 25 v2 v10) fun v12 H5 =>
 ak (zbt H5 v2 25) fun v13 =>
 Q (.tup [v13,v11]) H5))
theorem mg(dep:Nat)(x0 x1 x2 x3:AV)(H:ad)(Q:AV→ad→Prop)(h : ∀g,gU dep g x0 x1 x2 x3 H Q):b7 env Tryz.f87 (dep+1) [.code gS] [(0,x0),(1,x1),(2,x2),(3,x3)] H Q:=⟨fun g=>bc (live:=mu) (cut:=mD) (n:=500) (Eq.mp (by kernel_rfl) (h g))⟩
noncomputable def sh:Code:=(Tryz.f88.body).getD .skip
def z9:Nat→Option (List Nat):=fun i=>none
def Ah:Nat→Bool:=fun i=>false
def sH(dep:Nat)(g:Nat→AV)(x0:AV)(H:ad)(Q:AV→ad→Prop):Prop :=
 aL (zao H dep 2 25) fun v1 H1 =>
 ak (zby x0) fun v2 =>
 ak (zad 129 v2 1) fun v3 =>
 ak (zab H1 25 v3) fun v4 =>
 aL (zal H1 25 v1 v4) fun v5 H2 =>
 ak (zbt H2 v1 25) fun v6 =>
 Q (.tup [v6,(.v (.int .i64 0))]) H2
theorem zX(dep:Nat)(x0:AV)(H:ad)(Q:AV→ad→Prop)(h : ∀g,sH dep g x0 H Q):b7 env Tryz.f88 (dep+1) [.code sh] [(0,x0)] H Q:=⟨fun g=>bc (live:=z9) (cut:=Ah) (n:=500) (Eq.mp (by kernel_rfl) (h g))⟩
noncomputable def gC:Code:=(Tryz.f90.body).getD .skip
def md:Nat→Option (List Nat):=fun i=>none
def mf:Nat→Bool:=fun i=>false
def gD(dep:Nat)(g:Nat→AV)(x0 x1 x2 x3:AV)(H:ad)(Q:AV→ad→Prop):Prop :=
 aL (zaj H dep 4 25 x0) fun v1 H1 =>
 aL (zao H1 dep 8 73) fun v2 H2 =>
 ak (zab H2 25 v1) fun v3 =>
 aL (zbe dep H2 15 v3 x1) fun v4 H3 =>
 ak (zaw v4 0) fun v5 =>
 ak (zaw v4 1) fun v6 =>
 ak (zbb v6) fun v7 =>
 br (some v7) (
 ak (zab H3 73 v2) fun v8 =>
 aL (zal H3 73 v2 v8) fun v9 H4 =>
 ak (zbt H4 v2 73) fun v10 =>
 Q (.tup [v10,(.v (.int .i64 8))]) H4) (
 ak (zae 42 21 0 x2) fun v8 =>
 br (some v8) (
 ak (zab H3 73 v2) fun v9 =>
 aL (zal H3 73 v2 v9) fun v10 H4 =>
 ak (zbt H4 v2 73) fun v11 =>
 Q (.tup [v11,x2]) H4) (
 aL (zbd dep H3 27 x3 v5) fun v9 H4 =>
 ak (zaw v9 0) fun v10 =>
 ak (zaw v9 1) fun v11 =>
 aL (zal H4 73 v2 v10) fun v12 H5 =>
 ak (zbt H5 v2 73) fun v13 =>
 Q (.tup [v13,v11]) H5))
theorem mc(dep:Nat)(x0 x1 x2 x3:AV)(H:ad)(Q:AV→ad→Prop)(h : ∀g,gD dep g x0 x1 x2 x3 H Q):b7 env Tryz.f90 (dep+1) [.code gC] [(0,x0),(1,x1),(2,x2),(3,x3)] H Q:=⟨fun g=>bc (live:=md) (cut:=mf) (n:=500) (Eq.mp (by kernel_rfl) (h g))⟩
noncomputable def qT:Code:=(Tryz.f92.body).getD .skip
def zg:Nat→Option (List Nat):=fun i=>none
def zi:Nat→Bool:=fun i=>false
def qV(dep:Nat)(g:Nat→AV)(x0 x1:AV)(H:ad)(Q:AV→ad→Prop):Prop :=
 aL (zao H dep 3 73) fun v1 H1 =>
 ak (zby x0) fun v2 =>
 ak (zad 129 v2 3) fun v3 =>
 ak (zab H1 126 v3) fun v4 =>
 ak (zab H1 31 x1) fun v5 =>
 ak (zbi H1 126 v4 v5) fun v6 =>
 aL (zal H1 73 v1 v6) fun v7 H2 =>
 ak (zbt H2 v1 73) fun v8 =>
 Q (.tup [v8,(.v (.int .i64 0))]) H2
theorem zd(dep:Nat)(x0 x1:AV)(H:ad)(Q:AV→ad→Prop)(h : ∀g,qV dep g x0 x1 H Q):b7 env Tryz.f92 (dep+1) [.code qT] [(0,x0),(1,x1)] H Q:=⟨fun g=>bc (live:=zg) (cut:=zi) (n:=500) (Eq.mp (by kernel_rfl) (h g))⟩
noncomputable def qf:Code:=(Tryz.f95.body).getD .skip
noncomputable def lf:List Item:=(cE 2 400 [.code qf]).getD []
def vt:Nat→Option (List Nat):=fun i=>cond (Nat.beq i 2) (some [13,2,1,11,12]) (none)
def vI:Nat→Bool:=fun i=>false
def vZ(dep:Nat)(g:Nat→AV)(x0 x1 x2:AV)(H:ad)(Q:AV→ad→Prop):Prop :=
 ak (zby x0) fun v1 =>
 ak (zad 129 v1 2) fun v2 =>
 ak (zab H 26 v2) fun v3 =>
 ak (zba H dep 12 26 v3) fun v4 =>
  b7 env Tryz.f95 (dep+1) lf [(13,(.v (.int .i64 0))),(2,x2),(1,x1),(11,v3),(12,v4)] H Q
theorem Ci(dep:Nat)(x0 x1 x2:AV)(H:ad)(Q:AV→ad→Prop)(h : ∀g,vZ dep g x0 x1 x2 H Q):b7 env Tryz.f95 (dep+1) [.code qf] [(0,x0),(1,x1),(2,x2)] H Q:=⟨fun g=>bc (live:=vt) (cut:=vI) (n:=500) (Eq.mp (by kernel_rfl) (h g))⟩
def gz(dep:Nat)(g:Nat→AV)(x13 x2 x1 x11 x12:AV)(H:ad)(Q:AV→ad→Prop):Prop :=
 ak (zap 3 13 12 x13 x12) fun v1 =>
 br (some v1) (
 ak (zau H 26 x11 x13) fun v2 =>
 ak (zab H 62 v2) fun v3 =>
 aL (zao H dep 7 62) fun v4 H1 =>
 aL (zal H1 62 v4 v3) fun v5 H2 =>
 ak (zad 62 v4 0) fun v6 =>
 ak (zab H2 5 v6) fun v7 =>
 ak (aH env.P .eql 5 (Operand.tmp 18) (.const (.int .u8 2)) (some v7) (some (a8 2))) fun v8 =>
 gQ v8 true (zad 62 v4 2) fun v9 =>
 gQ v8 true (zad 38 v9 1) fun v10 =>
 gQ v8 true (zab H2 31 v10) fun v11 =>
 gQ v8 true (zab H2 31 x1) fun v12 =>
 gQ v8 true (zan 31 23 24 v11 v12) fun v13 =>
 ak (zag v8 v13) fun v14 =>
 gQ v14 true (zad 62 v4 2) fun v15 =>
 gQ v14 true (zad 38 v15 2) fun v16 =>
 gQ v14 true (zab H2 3 v16) fun v17 =>
 gQ v14 true (zab H2 3 x2) fun v18 =>
 gQ v14 true (zan 3 30 31 v17 v18) fun v19 =>
 ak (zag v14 v19) fun v20 =>
 br (some v20) (
 ak (zad 62 v4 3) fun v21 =>
 ak (zab H2 42 v21) fun v22 =>
 Q (.tup [v22,(.v (.int .i64 0))]) H2) (
 ak (zaf 3 13 1 x13) fun v21 =>
  b7 env Tryz.f95 (dep+1) lf [(13,v21),(2,x2),(1,x1),(11,x11),(12,x12)] H2 Q)) (
 Q (.tup [(.v (.int .i64 0)),(.v (.int .i64 6))]) H)
theorem iQ(dep:Nat)(x13 x2 x1 x11 x12:AV)(H:ad)(Q:AV→ad→Prop)(h : ∀g,gz dep g x13 x2 x1 x11 x12 H Q):b7 env Tryz.f95 (dep+1) lf [(13,x13),(2,x2),(1,x1),(11,x11),(12,x12)] H Q:=dG fun g=>bc (live:=vt) (cut:=vI) (n:=500) (Eq.mp (by kernel_rfl) (h g))
noncomputable def hX:Code:=(Tryz.f97.body).getD .skip
def mK:Nat→Option (List Nat):=fun i=>none
def mR:Nat→Bool:=fun i=>false
def ic(dep:Nat)(g:Nat→AV)(x0 x1 x2 x3:AV)(H:ad)(Q:AV→ad→Prop):Prop :=
 aL (zaj H dep 4 25 x0) fun v1 H1 =>
 aL (zao H1 dep 8 81) fun v2 H2 =>
 ak (zab H2 25 v1) fun v3 =>
 aL (zbe dep H2 15 v3 x1) fun v4 H3 =>
 ak (zaw v4 0) fun v5 =>
 ak (zaw v4 1) fun v6 =>
 ak (zbb v6) fun v7 =>
 br (some v7) (
 ak (zab H3 81 v2) fun v8 =>
 aL (zal H3 81 v2 v8) fun v9 H4 =>
 ak (zbt H4 v2 81) fun v10 =>
 Q (.tup [v10,(.v (.int .i64 8))]) H4) (
 ak (zae 42 21 0 x2) fun v8 =>
 br (some v8) (
 ak (zab H3 81 v2) fun v9 =>
 aL (zal H3 81 v2 v9) fun v10 H4 =>
 ak (zbt H4 v2 81) fun v11 =>
 Q (.tup [v11,x2]) H4) (
 aL (zbd dep H3 27 x3 v5) fun v9 H4 =>
 ak (zaw v9 0) fun v10 =>
 ak (zaw v9 1) fun v11 =>
 aL (zal H4 81 v2 v10) fun v12 H5 =>
 ak (zbt H5 v2 81) fun v13 =>
 Q (.tup [v13,v11]) H5))
theorem mH(dep:Nat)(x0 x1 x2 x3:AV)(H:ad)(Q:AV→ad→Prop)(h : ∀g,ic dep g x0 x1 x2 x3 H Q):b7 env Tryz.f97 (dep+1) [.code hX] [(0,x0),(1,x1),(2,x2),(3,x3)] H Q:=⟨fun g=>bc (live:=mK) (cut:=mR) (n:=500) (Eq.mp (by kernel_rfl) (h g))⟩
noncomputable def vP:Code:=(Tryz.f98.body).getD .skip
def Cy:Nat→Option (List Nat):=fun i=>none
def CP:Nat→Bool:=fun i=>false
def vW(dep:Nat)(g:Nat→AV)(x0 x1:AV)(H:ad)(Q:AV→ad→Prop):Prop :=
 aL (zao H dep 3 81) fun v1 H1 =>
 ak (zby x0) fun v2 =>
 ak (zad 129 v2 4) fun v3 =>
 ak (zab H1 127 v3) fun v4 =>
 ak (zab H1 29 x1) fun v5 =>
 ak (zbi H1 127 v4 v5) fun v6 =>
 aL (zao H1 dep 5 81) fun v7 H2 =>
 aL (zal H2 81 v7 v6) fun v8 H3 =>
 ak (zab H3 29 x1) fun v9 =>
 ak (zad 81 v7 0) fun v10 =>
 aL (zal H3 29 v10 v9) fun v11 H4 =>
 ak (zab H4 81 v7) fun v12 =>
 aL (zal H4 81 v1 v12) fun v13 H5 =>
 ak (zbt H5 v1 81) fun v14 =>
 Q (.tup [v14,(.v (.int .i64 0))]) H5
theorem Cf(dep:Nat)(x0 x1:AV)(H:ad)(Q:AV→ad→Prop)(h : ∀g,vW dep g x0 x1 H Q):b7 env Tryz.f98 (dep+1) [.code vP] [(0,x0),(1,x1)] H Q:=⟨fun g=>bc (live:=Cy) (cut:=CP) (n:=500) (Eq.mp (by kernel_rfl) (h g))⟩
noncomputable def wF:Code:=(Tryz.f100.body).getD .skip
noncomputable def iV:List Item:=(cE 6 400 [.code wF]).getD []
def A9:Nat→Option (List Nat):=fun i=>cond (Nat.beq i 6) (some [28,6,7,26,27]) (none)
def BE:Nat→Bool:=fun i=>false
def rj(dep:Nat)(g:Nat→AV)(x0 x1:AV)(H:ad)(Q:AV→ad→Prop):Prop :=
 aL (zaj H dep 2 25 x0) fun v1 H1 =>
 ak (zab H1 25 v1) fun v2 =>
 aL (bo env true (bj env) (bO env (dep+1)) H1 (⟨(dep+1),11,ad.gen H1 (dep+1) 11,0⟩:Ref) (some (.fn (.func 102) [] [])) [v2]) fun v3 H2 =>
 ak (zae 42 11 0 v3) fun v4 =>
 gQ v4 false (zbj x1) fun v5 =>
 gQ v4 false (zba H2 dep 15 26 v5) fun v6 =>
 gQ v4 false (zar 3 15 2048 v6) fun v7 =>
 ak (zam v4 v7) fun v8 =>
 br (some v8) (
 Q (.tup [(.v (.pointer none)),(.v (.bool false))]) H2) (
 ak (zab H2 25 v1) fun v9 =>
 ak (zab H2 25 v1) fun v10 =>
 aL (lI env false (bj env) (bO env (dep+1)) H2 (⟨(dep+1),20,ad.gen H2 (dep+1) 20,0⟩:Ref) (some (.fn (.func 160) [] [])) [v10]) fun v11 H3 =>
 aL (zbn H3 dep 21) fun v12 H4 =>
 aL (zbn H4 dep 22) fun v13 H5 =>
 ak (ch env.P 129 (some [(0,v9),(1,v11),(3,v12),(4,v13)])) fun v14 =>
 aL (zaj H5 dep 24 129 v14) fun v15 H6 =>
 aL (bo env true (bj env) (bO env (dep+1)) H6 (⟨(dep+1),25,ad.gen H6 (dep+1) 25,0⟩:Ref) (some (.fn (.func 84) [] [])) []) fun v16 H7 =>
 ak (zba H7 dep 27 26 x1) fun v17 =>
  b7 env Tryz.f100 (dep+1) iV [(28,(.v (.int .i64 0))),(6,v15),(7,v16),(26,x1),(27,v17)] H7 Q)
theorem Ig(dep:Nat)(x0 x1:AV)(H:ad)(Q:AV→ad→Prop)(h : ∀g,rj dep g x0 x1 H Q):b7 env Tryz.f100 (dep+1) [.code wF] [(0,x0),(1,x1)] H Q:=⟨fun g=>bc (live:=A9) (cut:=BE) (n:=500) (Eq.mp (by kernel_rfl) (h g))⟩
def pz(dep:Nat)(g:Nat→AV)(x28 x6 x7 x26 x27:AV)(H:ad)(Q:AV→ad→Prop):Prop :=
 ak (zap 3 28 27 x28 x27) fun v1 =>
 br (some v1) (
 ak (zau H 26 x26 x28) fun v2 =>
 ak (zab H 62 v2) fun v3 =>
 aL (zao H dep 9 62) fun v4 H1 =>
 aL (zal H1 62 v4 v3) fun v5 H2 =>
 ak (zab H2 62 v4) fun v6 =>
 aL (bo env true (bj env) (bO env (dep+1)) H2 (⟨(dep+1),33,ad.gen H2 (dep+1) 33,0⟩:Ref) (some (.fn (.func 82) [] [])) [v6]) fun v7 H3 =>
 ak (zae 42 33 0 v7) fun v8 =>
 gQ v8 false (zbj x7) fun v9 =>
 gQ v8 false (zad 62 v4 0) fun v10 =>
 gQ v8 false (zab H3 5 v10) fun v11 =>
 gQ v8 false (zbi H3 151 v9 v11) fun v12 =>
 gQ v8 false (pV env.P 150 (some v12) 0) fun v13 =>
 gQ v8 false (zbj x6) fun v14 =>
 gQ v8 false (zab H3 62 v4) fun v15 =>
 gW v8 false H3 (zbv dep H3 43 v13 v14 v15) fun v16 H4 =>
 gQ v8 false (zbb v16) fun v17 =>
 ak (zam v8 v17) fun v18 =>
 br (some v18) (
 Q (.tup [(.v (.pointer none)),(.v (.bool false))]) H4) (
 ak (zad 62 v4 0) fun v19 =>
 ak (zab H4 5 v19) fun v20 =>
 ak (zbi H4 151 x7 v20) fun v21 =>
 ak (pV env.P 150 (some v21) 1) fun v22 =>
 ak (zab H4 62 v4) fun v23 =>
 aL (zbv dep H4 53 v22 x6 v23) fun v24 H5 =>
 ak (zby x6) fun v25 =>
 ak (zad 129 v25 2) fun v26 =>
 ak (zab H5 26 v26) fun v27 =>
 ak (zab H5 62 v4) fun v28 =>
 aL (bo env false (bj env) (bO env (dep+1)) H5 (⟨(dep+1),60,ad.gen H5 (dep+1) 60,0⟩:Ref) (some (.fn (.func 161) [] [])) [v28]) fun v29 H6 =>
 aL (zch H6 dep 61 26 1 0 v29) fun v30 H7 =>
 aL (zbu H7 dep 62 26 26 v27 v30) fun v31 H8 =>
 ak (zby x6) fun v32 =>
 ak (zad 129 v32 2) fun v33 =>
 aL (zal H8 26 v33 v31) fun v34 H9 =>
 ak (zaf 3 28 1 x28) fun v35 =>
  b7 env Tryz.f100 (dep+1) iV [(28,v35),(6,x6),(7,x7),(26,x26),(27,x27)] H9 Q)) (
 Q (.tup [x6,(.v (.bool true))]) H)
theorem rJ(dep:Nat)(x28 x6 x7 x26 x27:AV)(H:ad)(Q:AV→ad→Prop)(h : ∀g,pz dep g x28 x6 x7 x26 x27 H Q):b7 env Tryz.f100 (dep+1) iV [(28,x28),(6,x6),(7,x7),(26,x26),(27,x27)] H Q:=dG fun g=>bc (live:=A9) (cut:=BE) (n:=500) (Eq.mp (by kernel_rfl) (h g))
noncomputable def tO:Code:=(Tryz.f145.body).getD .skip
def Bf:Nat→Option (List Nat):=fun i=>none
def BK:Nat→Bool:=fun i=>false
def uo(dep:Nat)(g:Nat→AV)(x0 x1:AV)(H:ad)(Q:AV→ad→Prop):Prop :=
 aL (zaj H dep 3 62 x1) fun v1 H1 =>
 ak (zad 62 v1 2) fun v2 =>
 ak (zad 38 v2 1) fun v3 =>
 ak (zad 31 v3 0) fun v4 =>
 ak (zab H1 29 v4) fun v5 =>
 aL (zcc dep H1 13 x0 v5) fun v6 H2 =>
 ak (zaw v6 0) fun v7 =>
 ak (zaw v6 1) fun v8 =>
 ak (zby x0) fun v9 =>
 ak (zad 129 v9 3) fun v10 =>
 ak (zab H2 126 v10) fun v11 =>
 ak (zad 62 v1 2) fun v12 =>
 ak (zad 38 v12 1) fun v13 =>
 ak (zab H2 31 v13) fun v14 =>
 ak (zbi H2 126 v11 v14) fun v15 =>
 ak (pV env.P 73 (some v15) 0) fun v16 =>
 ak (zbb v16) fun v17 =>
 gQ v17 true (zbj x0) fun v18 =>
 gQ v17 true (zad 62 v1 1) fun v19 =>
 gQ v17 true (zab H2 3 v19) fun v20 =>
 gQ v17 true (zad 62 v1 2) fun v21 =>
 gQ v17 true (zad 38 v21 1) fun v22 =>
 gQ v17 true (zad 31 v22 0) fun v23 =>
 gQ v17 true (zab H2 29 v23) fun v24 =>
 gW v17 true H2 (bo env true (bj env) (bO env (dep+1)) H2 (⟨(dep+1),34,ad.gen H2 (dep+1) 34,0⟩:Ref) (some (.fn (.func 147) [] [])) [v18,v20,v24]) fun v25 H3 =>
 ak (zag v17 v25) fun v26 =>
 gQ v26 true (zbj v7) fun v27 =>
 ak (zag v26 v27) fun v28 =>
 Q v28 H3
theorem Ay(dep:Nat)(x0 x1:AV)(H:ad)(Q:AV→ad→Prop)(h : ∀g,uo dep g x0 x1 H Q):b7 env Tryz.f145 (dep+1) [.code tO] [(0,x0),(1,x1)] H Q:=⟨fun g=>bc (live:=Bf) (cut:=BK) (n:=500) (Eq.mp (by kernel_rfl) (h g))⟩
noncomputable def ji:Code:=(Tryz.f146.body).getD .skip
def oN:Nat→Option (List Nat):=fun i=>none
def oS:Nat→Bool:=fun i=>false
def jn(dep:Nat)(g:Nat→AV)(x0 x1:AV)(H:ad)(Q:AV→ad→Prop):Prop :=
 aL (zaj H dep 3 29 x1) fun v1 H1 =>
 ak (zby x0) fun v2 =>
 ak (zad 129 v2 0) fun v3 =>
 ak (zab H1 25 v3) fun v4 =>
 ak (zab H1 29 v1) fun v5 =>
 aL (zcb dep H1 15 v4 v5) fun v6 H2 =>
 ak (zaw v6 0) fun v7 =>
 ak (zaw v6 1) fun v8 =>
 aL (zao H2 dep 6 81) fun v9 H3 =>
 aL (zal H3 81 v9 v7) fun v10 H4 =>
 ak (zby x0) fun v11 =>
 ak (zad 129 v11 4) fun v12 =>
 ak (zab H4 127 v12) fun v13 =>
 ak (zab H4 29 v1) fun v14 =>
 ak (zbi H4 127 v13 v14) fun v15 =>
 aL (zao H4 dep 8 81) fun v16 H5 =>
 aL (zal H5 81 v16 v15) fun v17 H6 =>
 ak (zad 81 v16 1) fun v18 =>
 ak (zab H6 3 v18) fun v19 =>
 ak (zad 81 v9 1) fun v20 =>
 ak (zab H6 3 v20) fun v21 =>
 ak (zap 3 25 27 v19 v21) fun v22 =>
 ak (zad 81 v16 2) fun v23 =>
 ak (zab H6 3 v23) fun v24 =>
 ak (zad 81 v9 2) fun v25 =>
 ak (zab H6 3 v25) fun v26 =>
 ak (zap 3 30 32 v24 v26) fun v27 =>
 Q (.tup [v22,v27]) H6
theorem oH(dep:Nat)(x0 x1:AV)(H:ad)(Q:AV→ad→Prop)(h : ∀g,jn dep g x0 x1 H Q):b7 env Tryz.f146 (dep+1) [.code ji] [(0,x0),(1,x1)] H Q:=⟨fun g=>bc (live:=oN) (cut:=oS) (n:=500) (Eq.mp (by kernel_rfl) (h g))⟩
noncomputable def jH:Code:=(Tryz.f147.body).getD .skip
def o7:Nat→Option (List Nat):=fun i=>none
def pg:Nat→Bool:=fun i=>false
def fE(dep:Nat)(g:Nat→AV)(x0 x1 x2:AV)(H:ad)(Q:AV→ad→Prop):Prop :=
 aL (zaj H dep 5 29 x2) fun v1 H1 =>
 ak (zby x0) fun v2 =>
 ak (zad 129 v2 1) fun v3 =>
 ak (zab H1 25 v3) fun v4 =>
 ak (zab H1 29 v1) fun v5 =>
 aL (bo env false (bj env) (bO env (dep+1)) H1 (⟨(dep+1),16,ad.gen H1 (dep+1) 16,0⟩:Ref) (some (.fn (.func 174) [] [])) [v4,x1,v5]) fun v6 H2 =>
 ak (zaw v6 0) fun v7 =>
 ak (zaw v6 1) fun v8 =>
 ak (zak 42 19 0 v8) fun v9 =>
 gQ v9 true (zbj v7) fun v10 =>
 ak (zag v9 v10) fun v11 =>
 Q v11 H2
theorem oW(dep:Nat)(x0 x1 x2:AV)(H:ad)(Q:AV→ad→Prop)(h : ∀g,fE dep g x0 x1 x2 H Q):b7 env Tryz.f147 (dep+1) [.code jH] [(0,x0),(1,x1),(2,x2)] H Q:=⟨fun g=>bc (live:=o7) (cut:=pg) (n:=500) (Eq.mp (by kernel_rfl) (h g))⟩
noncomputable def tN:Code:=(Tryz.f148.body).getD .skip
def Be:Nat→Option (List Nat):=fun i=>none
def BJ:Nat→Bool:=fun i=>false
def uj(dep:Nat)(g:Nat→AV)(x0 x1:AV)(H:ad)(Q:AV→ad→Prop):Prop :=
 aL (zaj H dep 3 62 x1) fun v1 H1 =>
 ak (zby x0) fun v2 =>
 ak (zad 129 v2 3) fun v3 =>
 ak (zab H1 126 v3) fun v4 =>
 ak (zad 62 v1 2) fun v5 =>
 ak (zad 38 v5 1) fun v6 =>
 ak (zab H1 31 v6) fun v7 =>
 ak (zad 62 v1 1) fun v8 =>
 ak (zab H1 3 v8) fun v9 =>
 ak (ch env.P 73 (some [(0,(.v (.bool true))),(1,v9)])) fun v10 =>
 aL (dO env.P H1 126 (some v4) (some v7) (some v10)) fun v11 H2 =>
 ak (zby x0) fun v12 =>
 ak (zad 129 v12 4) fun v13 =>
 ak (zab H2 127 v13) fun v14 =>
 ak (zad 62 v1 2) fun v15 =>
 ak (zad 38 v15 1) fun v16 =>
 ak (zad 31 v16 0) fun v17 =>
 ak (zab H2 29 v17) fun v18 =>
 ak (zbi H2 127 v14 v18) fun v19 =>
 aL (zao H2 dep 4 81) fun v20 H3 =>
 aL (zal H3 81 v20 v19) fun v21 H4 =>
 ak (zad 81 v20 1) fun v22 =>
 ak (zab H4 3 v22) fun v23 =>
 ak (zaf 3 25 1 v23) fun v24 =>
 ak (zad 81 v20 1) fun v25 =>
 aL (zal H4 3 v25 v24) fun v26 H5 =>
 ak (zby x0) fun v27 =>
 ak (zad 129 v27 4) fun v28 =>
 ak (zab H5 127 v28) fun v29 =>
 ak (zad 62 v1 2) fun v30 =>
 ak (zad 38 v30 1) fun v31 =>
 ak (zad 31 v31 0) fun v32 =>
 ak (zab H5 29 v32) fun v33 =>
 ak (zab H5 81 v20) fun v34 =>
 aL (dO env.P H5 127 (some v29) (some v33) (some v34)) fun v35 H6 =>
 Q (.v (.tuple #[])) H6
theorem Ax(dep:Nat)(x0 x1:AV)(H:ad)(Q:AV→ad→Prop)(h : ∀g,uj dep g x0 x1 H Q):b7 env Tryz.f148 (dep+1) [.code tN] [(0,x0),(1,x1)] H Q:=⟨fun g=>bc (live:=Be) (cut:=BJ) (n:=500) (Eq.mp (by kernel_rfl) (h g))⟩
noncomputable def tM:Code:=(Tryz.f149.body).getD .skip
def Bd:Nat→Option (List Nat):=fun i=>none
def BI:Nat→Bool:=fun i=>false
def ui(dep:Nat)(g:Nat→AV)(x0 x1:AV)(H:ad)(Q:AV→ad→Prop):Prop :=
 aL (zaj H dep 3 62 x1) fun v1 H1 =>
 ak (zby x0) fun v2 =>
 ak (zad 129 v2 3) fun v3 =>
 ak (zab H1 126 v3) fun v4 =>
 ak (zad 62 v1 2) fun v5 =>
 ak (zad 38 v5 1) fun v6 =>
 ak (zab H1 31 v6) fun v7 =>
 ak (zbi H1 126 v4 v7) fun v8 =>
 aL (zao H1 dep 5 73) fun v9 H2 =>
 aL (zal H2 73 v9 v8) fun v10 H3 =>
 ak (zad 62 v1 2) fun v11 =>
 ak (zad 38 v11 1) fun v12 =>
 ak (zad 31 v12 0) fun v13 =>
 ak (zab H3 29 v13) fun v14 =>
 aL (zcc dep H3 22 x0 v14) fun v15 H4 =>
 ak (zaw v15 0) fun v16 =>
 ak (zaw v15 1) fun v17 =>
 ak (zad 73 v9 0) fun v18 =>
 ak (zab H4 4 v18) fun v19 =>
 gQ v19 true (zbj x0) fun v20 =>
 gQ v19 true (zad 73 v9 1) fun v21 =>
 gQ v19 true (zab H4 3 v21) fun v22 =>
 gQ v19 true (zad 62 v1 2) fun v23 =>
 gQ v19 true (zad 38 v23 1) fun v24 =>
 gQ v19 true (zad 31 v24 0) fun v25 =>
 gQ v19 true (zab H4 29 v25) fun v26 =>
 gW v19 true H4 (lI env true (bj env) (bO env (dep+1)) H4 (⟨(dep+1),35,ad.gen H4 (dep+1) 35,0⟩:Ref) (some (.fn (.func 147) [] [])) [v20,v22,v26]) fun v27 H5 =>
 ak (zag v19 v27) fun v28 =>
 gQ v28 true (zad 62 v1 2) fun v29 =>
 gQ v28 true (zad 38 v29 2) fun v30 =>
 gQ v28 true (zab H5 3 v30) fun v31 =>
 gQ v28 true (zad 73 v9 2) fun v32 =>
 gQ v28 true (zab H5 3 v32) fun v33 =>
 gQ v28 true (zaf 3 42 1 v33) fun v34 =>
 gQ v28 true (zan 3 40 43 v31 v34) fun v35 =>
 ak (zag v28 v35) fun v36 =>
 gQ v36 true (zbj v17) fun v37 =>
 ak (zag v36 v37) fun v38 =>
 gQ v38 true (zad 62 v1 3) fun v39 =>
 gQ v38 true (zab H5 42 v39) fun v40 =>
 gQ v38 true (zbj x0) fun v41 =>
 gQ v38 true (zad 62 v1 2) fun v42 =>
 gQ v38 true (zab H5 38 v42) fun v43 =>
 gW v38 true H5 (lI env true (bj env) (bO env (dep+1)) H5 (⟨(dep+1),55,ad.gen H5 (dep+1) 55,0⟩:Ref) (some (.fn (.func 72) [] [])) [v41,v43]) fun v44 H6 =>
 gQ v38 true (zan 42 51 55 v40 v44) fun v45 =>
 ak (zag v38 v45) fun v46 =>
  lD [(v35,v34)] [] [] H6 ∧
 (Q v46 H6)
theorem Aw(dep:Nat)(x0 x1:AV)(H:ad)(Q:AV→ad→Prop)(h : ∀g,ui dep g x0 x1 H Q):b7 env Tryz.f149 (dep+1) [.code tM] [(0,x0),(1,x1)] H Q:=⟨fun g=>bc (live:=Bd) (cut:=BI) (n:=500) (Eq.mp (by kernel_rfl) (h g))⟩
noncomputable def pn:Code:=(Tryz.f150.body).getD .skip
def Bc:Nat→Option (List Nat):=fun i=>none
def BH:Nat→Bool:=fun i=>false
def ib(dep:Nat)(g:Nat→AV)(x0 x1:AV)(H:ad)(Q:AV→ad→Prop):Prop :=
 aL (zaj H dep 3 62 x1) fun v1 H1 =>
 ak (zby x0) fun v2 =>
 ak (zad 129 v2 3) fun v3 =>
 ak (zab H1 126 v3) fun v4 =>
 ak (zad 62 v1 2) fun v5 =>
 ak (zad 38 v5 1) fun v6 =>
 ak (zab H1 31 v6) fun v7 =>
 ak (zbi H1 126 v4 v7) fun v8 =>
 ak (zby x0) fun v9 =>
 ak (zad 129 v9 4) fun v10 =>
 ak (zab H1 127 v10) fun v11 =>
 ak (zad 62 v1 2) fun v12 =>
 ak (zad 38 v12 1) fun v13 =>
 ak (zad 31 v13 0) fun v14 =>
 ak (zab H1 29 v14) fun v15 =>
 ak (zbi H1 127 v11 v15) fun v16 =>
 aL (zao H1 dep 4 73) fun v17 H2 =>
 aL (zao H2 dep 5 81) fun v18 H3 =>
 aL (zal H3 73 v17 v8) fun v19 H4 =>
 aL (zal H4 81 v18 v16) fun v20 H5 =>
  lD [(v10,v17),(v14,v17),(v11,v17)] [v17,v18] [] H5 ∧
 (ak (zad 73 v17 2) fun v21 =>
 ak (zab H5 3 v21) fun v22 =>
 ak (zaf 3 24 1 v22) fun v23 =>
 ak (zad 73 v17 2) fun v24 =>
 aL (zal H5 3 v24 v23) fun v25 H6 =>
 ak (zad 81 v18 2) fun v26 =>
 ak (zab H6 3 v26) fun v27 =>
 ak (zaf 3 28 1 v27) fun v28 =>
 ak (zad 81 v18 2) fun v29 =>
 aL (zal H6 3 v29 v28) fun v30 H7 =>
 ak (zad 62 v1 3) fun v31 =>
 ak (zab H7 42 v31) fun v32 =>
 ak (zak 42 32 0 v32) fun v33 =>
 br (some v33) (
 ak (zby x0) fun v34 =>
 ak (zad 129 v34 5) fun v35 =>
 ak (zab H7 41 v35) fun v36 =>
 ak (zad 62 v1 2) fun v37 =>
 ak (zab H7 38 v37) fun v38 =>
 aL (bo env false (bj env) (bO env (dep+1)) H7 (⟨(dep+1),41,ad.gen H7 (dep+1) 41,0⟩:Ref) (some (.fn (.func 108) [] [])) [v38]) fun v39 H8 =>
 aL (zch H8 dep 42 41 1 0 v39) fun v40 H9 =>
 aL (zbu H9 dep 43 41 41 v36 v40) fun v41 H10 =>
 ak (zby x0) fun v42 =>
 ak (zad 129 v42 5) fun v43 =>
 aL (zal H10 41 v43 v41) fun v44 H11 =>
 ak (zad 62 v1 2) fun v45 =>
 ak (zad 38 v45 0) fun v46 =>
 ak (zab H11 5 v46) fun v47 =>
 ak (zbk 5 48 v47) fun v48 =>
 br (some v48) (
 ak (zad 81 v18 3) fun v49 =>
 ak (zab H11 3 v49) fun v50 =>
 ak (zad 62 v1 2) fun v51 =>
 ak (zad 38 v51 3) fun v52 =>
 ak (zad 35 v52 1) fun v53 =>
 ak (zab H11 3 v53) fun v54 =>
 ak (zbf 3 51 55 v50 v54) fun v55 =>
 ak (zad 81 v18 3) fun v56 =>
 aL (zal H11 3 v56 v55) fun v57 H12 =>
 ak (zby x0) fun v58 =>
 ak (zad 129 v58 3) fun v59 =>
 ak (zab H12 126 v59) fun v60 =>
 ak (zad 62 v1 2) fun v61 =>
 ak (zad 38 v61 1) fun v62 =>
 ak (zab H12 31 v62) fun v63 =>
 ak (zby x0) fun v64 =>
 ak (zad 129 v64 4) fun v65 =>
 ak (zab H12 127 v65) fun v66 =>
 ak (zad 62 v1 2) fun v67 =>
 ak (zad 38 v67 1) fun v68 =>
 ak (zad 31 v68 0) fun v69 =>
 ak (zab H12 29 v69) fun v70 =>
 ak (zab H12 73 v17) fun v71 =>
 ak (zab H12 81 v18) fun v72 =>
 aL (zcs H12 126 v60 v63) fun v73 H13 =>
 ak (zaw v73 1) fun v74 =>
 aL (zcr H13 v60 v74 v71) fun v75 H14 =>
 aL (zcs H14 127 v66 v70) fun v76 H15 =>
 ak (zaw v76 1) fun v77 =>
 aL (zcr H15 v66 v77 v72) fun v78 H16 =>
  lD [(v69,v60),(v17,v60),(v18,v60),(v18,v66)] [] [] H16 ∧
 (Q (.v (.tuple #[])) H16)) (
 ak (zby x0) fun v49 =>
 ak (zad 129 v49 3) fun v50 =>
 ak (zab H11 126 v50) fun v51 =>
 ak (zad 62 v1 2) fun v52 =>
 ak (zad 38 v52 1) fun v53 =>
 ak (zab H11 31 v53) fun v54 =>
 ak (zby x0) fun v55 =>
 ak (zad 129 v55 4) fun v56 =>
 ak (zab H11 127 v56) fun v57 =>
 ak (zad 62 v1 2) fun v58 =>
 ak (zad 38 v58 1) fun v59 =>
 ak (zad 31 v59 0) fun v60 =>
 ak (zab H11 29 v60) fun v61 =>
 ak (zab H11 73 v17) fun v62 =>
 ak (zab H11 81 v18) fun v63 =>
 aL (zcs H11 126 v51 v54) fun v64 H12 =>
 ak (zaw v64 1) fun v65 =>
 aL (zcr H12 v51 v65 v62) fun v66 H13 =>
 aL (zcs H13 127 v57 v61) fun v67 H14 =>
 ak (zaw v67 1) fun v68 =>
 aL (zcr H14 v57 v68 v63) fun v69 H15 =>
  lD [(v60,v51),(v17,v51),(v18,v51),(v18,v57)] [] [] H15 ∧
 (Q (.v (.tuple #[])) H15))) (
 ak (zby x0) fun v34 =>
 ak (zad 129 v34 3) fun v35 =>
 ak (zab H7 126 v35) fun v36 =>
 ak (zad 62 v1 2) fun v37 =>
 ak (zad 38 v37 1) fun v38 =>
 ak (zab H7 31 v38) fun v39 =>
 ak (zby x0) fun v40 =>
 ak (zad 129 v40 4) fun v41 =>
 ak (zab H7 127 v41) fun v42 =>
 ak (zad 62 v1 2) fun v43 =>
 ak (zad 38 v43 1) fun v44 =>
 ak (zad 31 v44 0) fun v45 =>
 ak (zab H7 29 v45) fun v46 =>
 ak (zab H7 73 v17) fun v47 =>
 ak (zab H7 81 v18) fun v48 =>
 aL (zcs H7 126 v36 v39) fun v49 H8 =>
 ak (zaw v49 1) fun v50 =>
 aL (zcr H8 v36 v50 v47) fun v51 H9 =>
 aL (zcs H9 127 v42 v46) fun v52 H10 =>
 ak (zaw v52 1) fun v53 =>
 aL (zcr H10 v42 v53 v48) fun v54 H11 =>
  lD [(v45,v36),(v17,v36),(v18,v36),(v18,v42)] [] [] H11 ∧
 (Q (.v (.tuple #[])) H11)))
theorem tl(dep:Nat)(x0 x1:AV)(H:ad)(Q:AV→ad→Prop)(h : ∀g,ib dep g x0 x1 H Q):b7 env Tryz.f150 (dep+1) [.code pn] [(0,x0),(1,x1)] H Q:=⟨fun g=>bc (live:=Bc) (cut:=BH) (n:=500) (Eq.mp (by kernel_rfl) (h g))⟩
noncomputable def tL:Code:=(Tryz.f151.body).getD .skip
def Bb:Nat→Option (List Nat):=fun i=>none
def BG:Nat→Bool:=fun i=>false
def pA(dep:Nat)(g:Nat→AV)(x0 x1:AV)(H:ad)(Q:AV→ad→Prop):Prop :=
 aL (zaj H dep 3 62 x1) fun v1 H1 =>
 ak (zby x0) fun v2 =>
 ak (zad 129 v2 1) fun v3 =>
 ak (zab H1 25 v3) fun v4 =>
 ak (zad 62 v1 4) fun v5 =>
 ak (zab H1 60 v5) fun v6 =>
 aL (zca dep H1 14 v4 v6) fun v7 H2 =>
 ak (zaw v7 0) fun v8 =>
 ak (zaw v7 1) fun v9 =>
 aL (zao H2 dep 5 25) fun v10 H3 =>
 aL (zal H3 25 v10 v8) fun v11 H4 =>
 ak (zak 42 17 0 v9) fun v12 =>
 Q v12 H4
theorem Av(dep:Nat)(x0 x1:AV)(H:ad)(Q:AV→ad→Prop)(h : ∀g,pA dep g x0 x1 H Q):b7 env Tryz.f151 (dep+1) [.code tL] [(0,x0),(1,x1)] H Q:=⟨fun g=>bc (live:=Bb) (cut:=BG) (n:=500) (Eq.mp (by kernel_rfl) (h g))⟩
noncomputable def tK:Code:=(Tryz.f153.body).getD .skip
def Ba:Nat→Option (List Nat):=fun i=>none
def BF:Nat→Bool:=fun i=>false
def uh(dep:Nat)(g:Nat→AV)(x0 x1:AV)(H:ad)(Q:AV→ad→Prop):Prop :=
 aL (zaj H dep 3 62 x1) fun v1 H1 =>
 ak (zby x0) fun v2 =>
 ak (zad 129 v2 1) fun v3 =>
 ak (zab H1 25 v3) fun v4 =>
 ak (zad 62 v1 4) fun v5 =>
 ak (zab H1 60 v5) fun v6 =>
 aL (zca dep H1 12 v4 v6) fun v7 H2 =>
 ak (zaw v7 0) fun v8 =>
 ak (zaw v7 1) fun v9 =>
 ak (zby x0) fun v10 =>
 ak (zad 129 v10 1) fun v11 =>
 aL (zal H2 25 v11 v8) fun v12 H3 =>
 Q (.v (.tuple #[])) H3
theorem Au(dep:Nat)(x0 x1:AV)(H:ad)(Q:AV→ad→Prop)(h : ∀g,uh dep g x0 x1 H Q):b7 env Tryz.f153 (dep+1) [.code tK] [(0,x0),(1,x1)] H Q:=⟨fun g=>bc (live:=Ba) (cut:=BF) (n:=500) (Eq.mp (by kernel_rfl) (h g))⟩
end Go.Proofs.YtmkmimgokagimaaGreat
