/-
  What is to be shown of each function, computed from its code. No statement of a seat is proved here.
-/
import Derived.Test.YtdbiffjdomokfaaGreatAuTy
set_option linter.unusedVariables false
set_option maxRecDepth 1000000
namespace Go.Proofs.YtdbiffjdomokfaaGreat
open Go.Ab
noncomputable def jv:Code:=(Tryz.f13.body).getD .skip
noncomputable def eH:List Item:=(bY 3 400 [.code jv]).getD []
def mo:Nat→Option (List Nat):=fun i=>cond (Nat.beq i 3) (some [8,1,7,2,3]) (none)
def mw:Nat→Bool:=fun i=>false
def jy(g:Nat→AV)(x0 x1 x2:AV)(H:ab)(Q:AV→ab→Prop):Prop :=
 aO (zac H 3 29 x0) fun v1 H1 =>
  bP env Tryz.f13 0 eH [(8,(.v (.int .i64 0))),(1,x1),(7,(.v (.int .i64 0))),(2,x2),(3,v1)] H1 Q
theorem rB(x0 x1 x2:AV)(H:ab)(Q:AV→ab→Prop)(h : ∀g,jy g x0 x1 x2 H Q):bP env Tryz.f13 0 [.code jv] [(0,x0),(1,x1),(2,x2)] H Q:=⟨fun g=>aV (live:=mo) (cut:=mw) (n:=500) (Eq.mp (by kernel_rfl) (h g))⟩
def fu(g:Nat→AV)(x8 x1 x7 x2 x3:AV)(H:ab)(Q:AV→ab→Prop):Prop :=
 ak (zah H 11 31 x1) fun v1 =>
 ak (zan 3 9 11 x8 v1) fun v2 =>
 gQ v2 true (zbi x8) fun v3 =>
 gQ v2 true (zat 3 14 300 v3) fun v4 =>
 ak (zag v2 v4) fun v5 =>
 br (some v5) (
 ak (zau H 31 x1 x8) fun v6 =>
 ak (zad 56 v6 2) fun v7 =>
 ak (zad 50 v7 3) fun v8 =>
 ak (zad 47 v8 1) fun v9 =>
 ak (zab H 3 v9) fun v10 =>
 ak (aK env.P true (ab.get H) (Ref.mk 0 27 (ab.gen H 0 27) 0) .max #[3,3] [v10,(.v (.int .i64 0))]) fun v11 =>
 ak (aK env.P true (ab.get H) (Ref.mk 0 28 (ab.gen H 0 28) 0) .min #[3,3] [v11,(.v (.int .i64 100))]) fun v12 =>
 ak (zau H 31 x1 x8) fun v13 =>
 ak (zad 56 v13 2) fun v14 =>
 ak (zad 50 v14 6) fun v15 =>
 ak (zab H 48 v15) fun v16 =>
 ak (zah H 35 48 v16) fun v17 =>
 ak (aK env.P true (ab.get H) (Ref.mk 0 36 (ab.gen H 0 36) 0) .min #[3,3] [v17,(.v (.int .i64 1000))]) fun v18 =>
 ak (zci H 37 3 3 v12 v18) fun v19 =>
 ak (zba 3 19 37 x7 v19) fun v20 =>
 ak (zae 3 17 1 x8) fun v21 =>
  bP env Tryz.f13 0 eH [(8,v21),(1,x1),(7,v20),(2,x2),(3,x3)] H Q) (
 ak (zab H 29 x3) fun v6 =>
 aO (zaa true H 40 25 [v6]) fun v7 H1 =>
 gQ v7 false (zbi x1) fun v8 =>
 gQ v7 false (zah H1 43 31 v8) fun v9 =>
 gQ v7 false (zbi x2) fun v10 =>
 gQ v7 false (aE env.P .gtr 3 (Operand.tmp 43) (Operand.tmp 44) (some v9) (some v10)) fun v11 =>
 ak (zal v7 v11) fun v12 =>
 gQ v12 false (zbi x7) fun v13 =>
 gQ v12 false (zar 3 48 300 v13) fun v14 =>
 ak (zal v12 v14) fun v15 =>
 Q v15 H1)
theorem lb(x8 x1 x7 x2 x3:AV)(H:ab)(Q:AV→ab→Prop)(h : ∀g,fu g x8 x1 x7 x2 x3 H Q):bP env Tryz.f13 0 eH [(8,x8),(1,x1),(7,x7),(2,x2),(3,x3)] H Q:=cU fun g=>aV (live:=mo) (cut:=mw) (n:=500) (Eq.mp (by kernel_rfl) (h g))
noncomputable def vf:Code:=(Tryz.f21.body).getD .skip
def BV:Nat→Option (List Nat):=fun i=>none
def Cr:Nat→Bool:=fun i=>false
def vp(g:Nat→AV)(x0 x1 x2:AV)(H:ab)(Q:AV→ab→Prop):Prop :=
 aO (zac H 3 29 x0) fun v1 H1 =>
 aO (zac H1 5 35 x2) fun v2 H2 =>
 ak (zab H2 29 v1) fun v3 =>
 ak (zab H2 35 v2) fun v4 =>
 aO (zaa false H2 11 33 [v4]) fun v5 H3 =>
 ak (sf (.func 34) (some []) (some [v2])) fun v6 =>
 aO (zaa true H3 13 32 [v3,x1,v5,v6]) fun v7 H4 =>
 ak (zbd v7 0) fun v8 =>
 ak (zbd v7 1) fun v9 =>
 Q (.tup [v8,v9]) H4
theorem Bd(x0 x1 x2:AV)(H:ab)(Q:AV→ab→Prop)(h : ∀g,vp g x0 x1 x2 H Q):bP env Tryz.f21 0 [.code vf] [(0,x0),(1,x1),(2,x2)] H Q:=⟨fun g=>aV (live:=BV) (cut:=Cr) (n:=500) (Eq.mp (by kernel_rfl) (h g))⟩
noncomputable def fS:Code:=(Tryz.f32.body).getD .skip
def kS:Nat→Option (List Nat):=fun i=>none
def kV:Nat→Bool:=fun i=>false
def fU(dep:Nat)(g:Nat→AV)(x0 x1 x2 x3:AV)(H:ab)(Q:AV→ab→Prop):Prop :=
 aO (zak H dep 4 29 x0) fun v1 H1 =>
 ak (zab H1 29 v1) fun v2 =>
 aO (bn env true (bj env) (bU env (dep+1)) H1 (⟨(dep+1),15,ab.gen H1 (dep+1) 15,0⟩:Ref) (some (.fn (.func 35) [] [])) [v2,x1]) fun v3 H2 =>
 ak (zbd v3 0) fun v4 =>
 ak (zbd v3 1) fun v5 =>
 ak (zbg v5) fun v6 =>
 br (some v6) (
 Q (.tup [(.v (.slice none 0 0)),(.v (.int .i64 8))]) H2) (
 ak (zaf 23 21 0 x2) fun v7 =>
 br (some v7) (
 Q (.tup [(.v (.slice none 0 0)),x2]) H2) (
 aO (zbt dep H2 27 x3 v4) fun v8 H3 =>
 ak (zbd v8 0) fun v9 =>
 ak (zbd v8 1) fun v10 =>
 Q (.tup [v9,v10]) H3))
theorem kQ(dep:Nat)(x0 x1 x2 x3:AV)(H:ab)(Q:AV→ab→Prop)(h : ∀g,fU dep g x0 x1 x2 x3 H Q):bP env Tryz.f32 (dep+1) [.code fS] [(0,x0),(1,x1),(2,x2),(3,x3)] H Q:=⟨fun g=>aV (live:=kS) (cut:=kV) (n:=500) (Eq.mp (by kernel_rfl) (h g))⟩
noncomputable def oI:Code:=(Tryz.f34.body).getD .skip
noncomputable def iF:List Item:=(bY 2 400 [.code oI]).getD []
def sk:Nat→Option (List Nat):=fun i=>cond (Nat.beq i 2) (some [12,3,1,10,11]) (none)
def sE:Nat→Bool:=fun i=>false
def sN(dep:Nat)(g:Nat→AV)(x0 x1:AV)(H:ab)(Q:AV→ab→Prop):Prop :=
 ak (zcd x0) fun v1 =>
 ak (zad 92 v1 2) fun v2 =>
 ak (zab H 31 v2) fun v3 =>
 ak (zbb H dep 11 31 v3) fun v4 =>
  bP env Tryz.f34 (dep+1) iF [(12,(.v (.int .i64 0))),(3,(.v (.slice none 0 0))),(1,x1),(10,v3),(11,v4)] H Q
theorem zf(dep:Nat)(x0 x1:AV)(H:ab)(Q:AV→ab→Prop)(h : ∀g,sN dep g x0 x1 H Q):bP env Tryz.f34 (dep+1) [.code oI] [(0,x0),(1,x1)] H Q:=⟨fun g=>aV (live:=sk) (cut:=sE) (n:=500) (Eq.mp (by kernel_rfl) (h g))⟩
def eY(dep:Nat)(g:Nat→AV)(x12 x3 x1 x10 x11:AV)(H:ab)(Q:AV→ab→Prop):Prop :=
 ak (zan 3 12 11 x12 x11) fun v1 =>
 br (some v1) (
 ak (zau H 31 x10 x12) fun v2 =>
 ak (zab H 56 v2) fun v3 =>
 aO (zaq H dep 6 56) fun v4 H1 =>
 aO (zam H1 56 v4 v3) fun v5 H2 =>
 ak (zad 56 v4 0) fun v6 =>
 ak (zab H2 5 v6) fun v7 =>
 ak (zbl 5 17 v7) fun v8 =>
 gQ v8 false (zad 56 v4 2) fun v9 =>
 gQ v8 false (zad 50 v9 1) fun v10 =>
 gQ v8 false (zad 40 v10 0) fun v11 =>
 gQ v8 false (zab H2 35 v11) fun v12 =>
 gQ v8 false (zab H2 35 x1) fun v13 =>
 gW v8 false H2 (zcc dep H2 25 v12 v13) fun v14 H3 =>
 ak (zal v8 v14) fun v15 =>
 br (some v15) (
 ak (zab H3 56 v4) fun v16 =>
 aO (eX env.P false true H3 (⟨(dep+1),29,ab.gen H3 (dep+1) 29,0⟩:Ref) 31 1 (some [(0,v16)])) fun v17 H4 =>
 aO (zbr H4 dep 30 31 31 x3 v17) fun v18 H5 =>
 ak (zae 3 12 1 x12) fun v19 =>
  bP env Tryz.f34 (dep+1) iF [(12,v19),(3,v18),(1,x1),(10,x10),(11,x11)] H5 Q) (
 ak (zae 3 12 1 x12) fun v16 =>
  bP env Tryz.f34 (dep+1) iF [(12,v16),(3,x3),(1,x1),(10,x10),(11,x11)] H3 Q)) (
 Q (.tup [x3,(.v (.int .i64 0))]) H)
theorem pS(dep:Nat)(x12 x3 x1 x10 x11:AV)(H:ab)(Q:AV→ab→Prop)(h : ∀g,eY dep g x12 x3 x1 x10 x11 H Q):bP env Tryz.f34 (dep+1) iF [(12,x12),(3,x3),(1,x1),(10,x10),(11,x11)] H Q:=cU fun g=>aV (live:=sk) (cut:=sE) (n:=500) (Eq.mp (by kernel_rfl) (h g))
noncomputable def tw:Code:=(Tryz.f35.body).getD .skip
noncomputable def iE:List Item:=(bY 6 400 [.code tw]).getD []
def ye:Nat→Option (List Nat):=fun i=>cond (Nat.beq i 6) (some [28,6,7,26,27]) (none)
def yI:Nat→Bool:=fun i=>false
def pI(dep:Nat)(g:Nat→AV)(x0 x1:AV)(H:ab)(Q:AV→ab→Prop):Prop :=
 aO (zak H dep 2 29 x0) fun v1 H1 =>
 ak (zab H1 29 v1) fun v2 =>
 aO (bn env true (bj env) (bU env (dep+1)) H1 (⟨(dep+1),11,ab.gen H1 (dep+1) 11,0⟩:Ref) (some (.fn (.func 41) [] [])) [v2]) fun v3 H2 =>
 ak (zaf 23 11 0 v3) fun v4 =>
 gQ v4 false (zbi x1) fun v5 =>
 gQ v4 false (zbb H2 dep 15 31 v5) fun v6 =>
 gQ v4 false (zar 3 15 2048 v6) fun v7 =>
 ak (zal v4 v7) fun v8 =>
 br (some v8) (
 Q (.tup [(.v (.pointer none)),(.v (.bool false))]) H2) (
 ak (zab H2 29 v1) fun v9 =>
 ak (zab H2 29 v1) fun v10 =>
 aO (kI env false (bj env) (bU env (dep+1)) H2 (⟨(dep+1),20,ab.gen H2 (dep+1) 20,0⟩:Ref) (some (.fn (.func 42) [] [])) [v10]) fun v11 H3 =>
 aO (zbn H3 dep 21) fun v12 H4 =>
 aO (zbn H4 dep 22) fun v13 H5 =>
 ak (cy env.P 92 (some [(0,v9),(1,v11),(3,v12),(4,v13)])) fun v14 =>
 aO (zak H5 dep 24 92 v14) fun v15 H6 =>
 aO (bn env true (bj env) (bU env (dep+1)) H6 (⟨(dep+1),25,ab.gen H6 (dep+1) 25,0⟩:Ref) (some (.fn (.func 43) [] [])) []) fun v16 H7 =>
 ak (zbb H7 dep 27 31 x1) fun v17 =>
  bP env Tryz.f35 (dep+1) iE [(28,(.v (.int .i64 0))),(6,v15),(7,v16),(26,x1),(27,v17)] H7 Q)
theorem Ey(dep:Nat)(x0 x1:AV)(H:ab)(Q:AV→ab→Prop)(h : ∀g,pI dep g x0 x1 H Q):bP env Tryz.f35 (dep+1) [.code tw] [(0,x0),(1,x1)] H Q:=⟨fun g=>aV (live:=ye) (cut:=yI) (n:=500) (Eq.mp (by kernel_rfl) (h g))⟩
def nW(dep:Nat)(g:Nat→AV)(x28 x6 x7 x26 x27:AV)(H:ab)(Q:AV→ab→Prop):Prop :=
 ak (zan 3 28 27 x28 x27) fun v1 =>
 br (some v1) (
 ak (zau H 31 x26 x28) fun v2 =>
 ak (zab H 56 v2) fun v3 =>
 aO (zaq H dep 9 56) fun v4 H1 =>
 aO (zam H1 56 v4 v3) fun v5 H2 =>
 ak (zab H2 56 v4) fun v6 =>
 aO (bn env true (bj env) (bU env (dep+1)) H2 (⟨(dep+1),33,ab.gen H2 (dep+1) 33,0⟩:Ref) (some (.fn (.func 44) [] [])) [v6]) fun v7 H3 =>
 ak (zaf 23 33 0 v7) fun v8 =>
 gQ v8 false (zbi x7) fun v9 =>
 gQ v8 false (zad 56 v4 0) fun v10 =>
 gQ v8 false (zab H3 5 v10) fun v11 =>
 gQ v8 false (zbj H3 102 v9 v11) fun v12 =>
 gQ v8 false (zcp 108 v12 0) fun v13 =>
 gQ v8 false (zbi x6) fun v14 =>
 gQ v8 false (zab H3 56 v4) fun v15 =>
 gW v8 false H3 (zbs dep H3 43 v13 v14 v15) fun v16 H4 =>
 gQ v8 false (zbg v16) fun v17 =>
 ak (zal v8 v17) fun v18 =>
 br (some v18) (
 Q (.tup [(.v (.pointer none)),(.v (.bool false))]) H4) (
 ak (zad 56 v4 0) fun v19 =>
 ak (zab H4 5 v19) fun v20 =>
 ak (zbj H4 102 x7 v20) fun v21 =>
 ak (zcp 108 v21 1) fun v22 =>
 ak (zab H4 56 v4) fun v23 =>
 aO (zbs dep H4 53 v22 x6 v23) fun v24 H5 =>
 ak (zcd x6) fun v25 =>
 ak (zad 92 v25 2) fun v26 =>
 ak (zab H5 31 v26) fun v27 =>
 ak (zab H5 56 v4) fun v28 =>
 aO (bn env false (bj env) (bU env (dep+1)) H5 (⟨(dep+1),60,ab.gen H5 (dep+1) 60,0⟩:Ref) (some (.fn (.func 45) [] [])) [v28]) fun v29 H6 =>
 aO (zcg H6 dep 61 31 1 0 v29) fun v30 H7 =>
 aO (zbr H7 dep 62 31 31 v27 v30) fun v31 H8 =>
 ak (zcd x6) fun v32 =>
 ak (zad 92 v32 2) fun v33 =>
 aO (zam H8 31 v33 v31) fun v34 H9 =>
 ak (zae 3 28 1 x28) fun v35 =>
  bP env Tryz.f35 (dep+1) iE [(28,v35),(6,x6),(7,x7),(26,x26),(27,x27)] H9 Q)) (
 Q (.tup [x6,(.v (.bool true))]) H)
theorem pR(dep:Nat)(x28 x6 x7 x26 x27:AV)(H:ab)(Q:AV→ab→Prop)(h : ∀g,nW dep g x28 x6 x7 x26 x27 H Q):bP env Tryz.f35 (dep+1) iE [(28,x28),(6,x6),(7,x7),(26,x26),(27,x27)] H Q:=cU fun g=>aV (live:=ye) (cut:=yI) (n:=500) (Eq.mp (by kernel_rfl) (h g))
noncomputable def q7:Code:=(Tryz.f71.body).getD .skip
def yl:Nat→Option (List Nat):=fun i=>none
def yO:Nat→Bool:=fun i=>false
def rp(dep:Nat)(g:Nat→AV)(x0 x1:AV)(H:ab)(Q:AV→ab→Prop):Prop :=
 aO (zak H dep 3 56 x1) fun v1 H1 =>
 ak (zad 56 v1 2) fun v2 =>
 ak (zad 50 v2 1) fun v3 =>
 ak (zad 40 v3 0) fun v4 =>
 ak (zab H1 35 v4) fun v5 =>
 aO (zcf dep H1 13 x0 v5) fun v6 H2 =>
 ak (zbd v6 0) fun v7 =>
 ak (zbd v6 1) fun v8 =>
 ak (zcd x0) fun v9 =>
 ak (zad 92 v9 3) fun v10 =>
 ak (zab H2 88 v10) fun v11 =>
 ak (zad 56 v1 2) fun v12 =>
 ak (zad 50 v12 1) fun v13 =>
 ak (zab H2 40 v13) fun v14 =>
 ak (zbj H2 88 v11 v14) fun v15 =>
 ak (zcp 119 v15 0) fun v16 =>
 ak (zbg v16) fun v17 =>
 gQ v17 true (zbi x0) fun v18 =>
 gQ v17 true (zad 56 v1 1) fun v19 =>
 gQ v17 true (zab H2 3 v19) fun v20 =>
 gQ v17 true (zad 56 v1 2) fun v21 =>
 gQ v17 true (zad 50 v21 1) fun v22 =>
 gQ v17 true (zad 40 v22 0) fun v23 =>
 gQ v17 true (zab H2 35 v23) fun v24 =>
 gW v17 true H2 (bn env true (bj env) (bU env (dep+1)) H2 (⟨(dep+1),34,ab.gen H2 (dep+1) 34,0⟩:Ref) (some (.fn (.func 73) [] [])) [v18,v20,v24]) fun v25 H3 =>
 ak (zag v17 v25) fun v26 =>
 gQ v26 true (zbi v7) fun v27 =>
 ak (zag v26 v27) fun v28 =>
 Q v28 H3
theorem xy(dep:Nat)(x0 x1:AV)(H:ab)(Q:AV→ab→Prop)(h : ∀g,rp dep g x0 x1 H Q):bP env Tryz.f71 (dep+1) [.code q7] [(0,x0),(1,x1)] H Q:=⟨fun g=>aV (live:=yl) (cut:=yO) (n:=500) (Eq.mp (by kernel_rfl) (h g))⟩
noncomputable def iR:Code:=(Tryz.f72.body).getD .skip
def nd:Nat→Option (List Nat):=fun i=>none
def nk:Nat→Bool:=fun i=>false
def iW(dep:Nat)(g:Nat→AV)(x0 x1:AV)(H:ab)(Q:AV→ab→Prop):Prop :=
 aO (zak H dep 3 35 x1) fun v1 H1 =>
 ak (zcd x0) fun v2 =>
 ak (zad 92 v2 0) fun v3 =>
 ak (zab H1 29 v3) fun v4 =>
 ak (zab H1 35 v1) fun v5 =>
 aO (zby dep H1 15 v4 v5) fun v6 H2 =>
 ak (zbd v6 0) fun v7 =>
 ak (zbd v6 1) fun v8 =>
 aO (zaq H2 dep 6 76) fun v9 H3 =>
 aO (zam H3 76 v9 v7) fun v10 H4 =>
 ak (zcd x0) fun v11 =>
 ak (zad 92 v11 4) fun v12 =>
 ak (zab H4 89 v12) fun v13 =>
 ak (zab H4 35 v1) fun v14 =>
 ak (zbj H4 89 v13 v14) fun v15 =>
 aO (zaq H4 dep 8 76) fun v16 H5 =>
 aO (zam H5 76 v16 v15) fun v17 H6 =>
 ak (zad 76 v16 1) fun v18 =>
 ak (zab H6 3 v18) fun v19 =>
 ak (zad 76 v9 1) fun v20 =>
 ak (zab H6 3 v20) fun v21 =>
 ak (zan 3 25 27 v19 v21) fun v22 =>
 ak (zad 76 v16 2) fun v23 =>
 ak (zab H6 3 v23) fun v24 =>
 ak (zad 76 v9 2) fun v25 =>
 ak (zab H6 3 v25) fun v26 =>
 ak (zan 3 30 32 v24 v26) fun v27 =>
 Q (.tup [v22,v27]) H6
theorem m7(dep:Nat)(x0 x1:AV)(H:ab)(Q:AV→ab→Prop)(h : ∀g,iW dep g x0 x1 H Q):bP env Tryz.f72 (dep+1) [.code iR] [(0,x0),(1,x1)] H Q:=⟨fun g=>aV (live:=nd) (cut:=nk) (n:=500) (Eq.mp (by kernel_rfl) (h g))⟩
noncomputable def jl:Code:=(Tryz.f73.body).getD .skip
def nE:Nat→Option (List Nat):=fun i=>none
def nL:Nat→Bool:=fun i=>false
def fv(dep:Nat)(g:Nat→AV)(x0 x1 x2:AV)(H:ab)(Q:AV→ab→Prop):Prop :=
 aO (zak H dep 5 35 x2) fun v1 H1 =>
 ak (zcd x0) fun v2 =>
 ak (zad 92 v2 1) fun v3 =>
 ak (zab H1 29 v3) fun v4 =>
 ak (zab H1 35 v1) fun v5 =>
 aO (bn env false (bj env) (bU env (dep+1)) H1 (⟨(dep+1),16,ab.gen H1 (dep+1) 16,0⟩:Ref) (some (.fn (.func 93) [] [])) [v4,x1,v5]) fun v6 H2 =>
 ak (zbd v6 0) fun v7 =>
 ak (zbd v6 1) fun v8 =>
 ak (zai 23 19 0 v8) fun v9 =>
 gQ v9 true (zbi v7) fun v10 =>
 ak (zag v9 v10) fun v11 =>
 Q v11 H2
theorem nw(dep:Nat)(x0 x1 x2:AV)(H:ab)(Q:AV→ab→Prop)(h : ∀g,fv dep g x0 x1 x2 H Q):bP env Tryz.f73 (dep+1) [.code jl] [(0,x0),(1,x1),(2,x2)] H Q:=⟨fun g=>aV (live:=nE) (cut:=nL) (n:=500) (Eq.mp (by kernel_rfl) (h g))⟩
noncomputable def q6:Code:=(Tryz.f74.body).getD .skip
def yj:Nat→Option (List Nat):=fun i=>none
def yN:Nat→Bool:=fun i=>false
def rl(dep:Nat)(g:Nat→AV)(x0 x1:AV)(H:ab)(Q:AV→ab→Prop):Prop :=
 aO (zak H dep 3 56 x1) fun v1 H1 =>
 ak (zcd x0) fun v2 =>
 ak (zad 92 v2 3) fun v3 =>
 ak (zab H1 88 v3) fun v4 =>
 ak (zad 56 v1 2) fun v5 =>
 ak (zad 50 v5 1) fun v6 =>
 ak (zab H1 40 v6) fun v7 =>
 ak (zad 56 v1 1) fun v8 =>
 ak (zab H1 3 v8) fun v9 =>
 ak (cy env.P 119 (some [(0,(.v (.bool true))),(1,v9)])) fun v10 =>
 aO (dL env.P H1 88 (some v4) (some v7) (some v10)) fun v11 H2 =>
 ak (zcd x0) fun v12 =>
 ak (zad 92 v12 4) fun v13 =>
 ak (zab H2 89 v13) fun v14 =>
 ak (zad 56 v1 2) fun v15 =>
 ak (zad 50 v15 1) fun v16 =>
 ak (zad 40 v16 0) fun v17 =>
 ak (zab H2 35 v17) fun v18 =>
 ak (zbj H2 89 v14 v18) fun v19 =>
 aO (zaq H2 dep 4 76) fun v20 H3 =>
 aO (zam H3 76 v20 v19) fun v21 H4 =>
 ak (zad 76 v20 1) fun v22 =>
 ak (zab H4 3 v22) fun v23 =>
 ak (zae 3 25 1 v23) fun v24 =>
 ak (zad 76 v20 1) fun v25 =>
 aO (zam H4 3 v25 v24) fun v26 H5 =>
 ak (zcd x0) fun v27 =>
 ak (zad 92 v27 4) fun v28 =>
 ak (zab H5 89 v28) fun v29 =>
 ak (zad 56 v1 2) fun v30 =>
 ak (zad 50 v30 1) fun v31 =>
 ak (zad 40 v31 0) fun v32 =>
 ak (zab H5 35 v32) fun v33 =>
 ak (zab H5 76 v20) fun v34 =>
 aO (dL env.P H5 89 (some v29) (some v33) (some v34)) fun v35 H6 =>
 Q (.v (.tuple #[])) H6
theorem xw(dep:Nat)(x0 x1:AV)(H:ab)(Q:AV→ab→Prop)(h : ∀g,rl dep g x0 x1 H Q):bP env Tryz.f74 (dep+1) [.code q6] [(0,x0),(1,x1)] H Q:=⟨fun g=>aV (live:=yj) (cut:=yN) (n:=500) (Eq.mp (by kernel_rfl) (h g))⟩
noncomputable def q0:Code:=(Tryz.f75.body).getD .skip
def yi:Nat→Option (List Nat):=fun i=>none
def yM:Nat→Bool:=fun i=>false
def rj(dep:Nat)(g:Nat→AV)(x0 x1:AV)(H:ab)(Q:AV→ab→Prop):Prop :=
 aO (zak H dep 3 56 x1) fun v1 H1 =>
 ak (zcd x0) fun v2 =>
 ak (zad 92 v2 3) fun v3 =>
 ak (zab H1 88 v3) fun v4 =>
 ak (zad 56 v1 2) fun v5 =>
 ak (zad 50 v5 1) fun v6 =>
 ak (zab H1 40 v6) fun v7 =>
 ak (zbj H1 88 v4 v7) fun v8 =>
 aO (zaq H1 dep 5 119) fun v9 H2 =>
 aO (zam H2 119 v9 v8) fun v10 H3 =>
 ak (zad 56 v1 2) fun v11 =>
 ak (zad 50 v11 1) fun v12 =>
 ak (zad 40 v12 0) fun v13 =>
 ak (zab H3 35 v13) fun v14 =>
 aO (zcf dep H3 22 x0 v14) fun v15 H4 =>
 ak (zbd v15 0) fun v16 =>
 ak (zbd v15 1) fun v17 =>
 ak (zad 119 v9 0) fun v18 =>
 ak (zab H4 4 v18) fun v19 =>
 gQ v19 true (zbi x0) fun v20 =>
 gQ v19 true (zad 119 v9 1) fun v21 =>
 gQ v19 true (zab H4 3 v21) fun v22 =>
 gQ v19 true (zad 56 v1 2) fun v23 =>
 gQ v19 true (zad 50 v23 1) fun v24 =>
 gQ v19 true (zad 40 v24 0) fun v25 =>
 gQ v19 true (zab H4 35 v25) fun v26 =>
 gW v19 true H4 (kI env true (bj env) (bU env (dep+1)) H4 (⟨(dep+1),35,ab.gen H4 (dep+1) 35,0⟩:Ref) (some (.fn (.func 73) [] [])) [v20,v22,v26]) fun v27 H5 =>
 ak (zag v19 v27) fun v28 =>
 gQ v28 true (zad 56 v1 2) fun v29 =>
 gQ v28 true (zad 50 v29 2) fun v30 =>
 gQ v28 true (zab H5 3 v30) fun v31 =>
 gQ v28 true (zad 119 v9 2) fun v32 =>
 gQ v28 true (zab H5 3 v32) fun v33 =>
 gQ v28 true (zae 3 42 1 v33) fun v34 =>
 gQ v28 true (zap 3 40 43 v31 v34) fun v35 =>
 ak (zag v28 v35) fun v36 =>
 gQ v36 true (zbi v17) fun v37 =>
 ak (zag v36 v37) fun v38 =>
 gQ v38 true (zad 56 v1 3) fun v39 =>
 gQ v38 true (zab H5 23 v39) fun v40 =>
 gQ v38 true (zbi x0) fun v41 =>
 gQ v38 true (zad 56 v1 2) fun v42 =>
 gQ v38 true (zab H5 50 v42) fun v43 =>
 gW v38 true H5 (kI env true (bj env) (bU env (dep+1)) H5 (⟨(dep+1),55,ab.gen H5 (dep+1) 55,0⟩:Ref) (some (.fn (.func 76) [] [])) [v41,v43]) fun v44 H6 =>
 gQ v38 true (zap 23 51 55 v40 v44) fun v45 =>
 ak (zag v38 v45) fun v46 =>
  kC [(v35,v34)] [] [] H6 ∧
 (Q v46 H6)
theorem xv(dep:Nat)(x0 x1:AV)(H:ab)(Q:AV→ab→Prop)(h : ∀g,rj dep g x0 x1 H Q):bP env Tryz.f75 (dep+1) [.code q0] [(0,x0),(1,x1)] H Q:=⟨fun g=>aV (live:=yi) (cut:=yM) (n:=500) (Eq.mp (by kernel_rfl) (h g))⟩
noncomputable def gY:Code:=(Tryz.f76.body).getD .skip
def mc:Nat→Option (List Nat):=fun i=>none
def me:Nat→Bool:=fun i=>false
def cF(dep:Nat)(g:Nat→AV)(x0 x1:AV)(H:ab)(Q:AV→ab→Prop):Prop :=
 aO (zak H dep 3 50 x1) fun v1 H1 =>
 ak (zcd x0) fun v2 =>
 ak (zad 92 v2 5) fun v3 =>
 ak (zab H1 90 v3) fun v4 =>
 ak (zab H1 50 v1) fun v5 =>
 aO (bn env false (bj env) (bU env (dep+1)) H1 (⟨(dep+1),13,ab.gen H1 (dep+1) 13,0⟩:Ref) (some (.fn (.func 94) [] [])) [v4,v5]) fun v6 H2 =>
 ak (zaf 23 14 0 v6) fun v7 =>
 br (some v7) (
 Q v6 H2) (
 ak (zcd x0) fun v8 =>
 ak (zad 92 v8 0) fun v9 =>
 ak (zab H2 29 v9) fun v10 =>
 ak (zad 50 v1 1) fun v11 =>
 ak (zad 40 v11 0) fun v12 =>
 ak (zab H2 35 v12) fun v13 =>
 aO (zby dep H2 25 v10 v13) fun v14 H3 =>
 ak (zbd v14 0) fun v15 =>
 ak (zbd v14 1) fun v16 =>
 aO (zaq H3 dep 6 76) fun v17 H4 =>
 aO (zam H4 76 v17 v15) fun v18 H5 =>
 ak (zad 50 v1 0) fun v19 =>
 ak (zab H5 5 v19) fun v20 =>
 ak (zbk 5 29 v20) fun v21 =>
 gQ v21 true (zbi x0) fun v22 =>
 gQ v21 true (zcd v22) fun v23 =>
 gQ v21 true (zad 92 v23 4) fun v24 =>
 gQ v21 true (zab H5 89 v24) fun v25 =>
 gQ v21 true (zad 50 v1 1) fun v26 =>
 gQ v21 true (zad 40 v26 0) fun v27 =>
 gQ v21 true (zab H5 35 v27) fun v28 =>
 gQ v21 true (zbj H5 89 v25 v28) fun v29 =>
 gQ v21 true (zcp 76 v29 3) fun v30 =>
 gQ v21 true (zad 50 v1 3) fun v31 =>
 gQ v21 true (zad 47 v31 1) fun v32 =>
 gQ v21 true (zab H5 3 v32) fun v33 =>
 gQ v21 true (zba 3 40 43 v30 v33) fun v34 =>
 gQ v21 true (zad 76 v17 3) fun v35 =>
 gQ v21 true (zab H5 3 v35) fun v36 =>
 gQ v21 true (aE env.P .gtr 3 (Operand.tmp 44) (Operand.tmp 46) (some v34) (some v36)) fun v37 =>
 ak (zag v21 v37) fun v38 =>
 br (some v38) (
 Q (.v (.int .i64 9)) H5) (
 Q (.v (.int .i64 0)) H5))
theorem l4(dep:Nat)(x0 x1:AV)(H:ab)(Q:AV→ab→Prop)(h : ∀g,cF dep g x0 x1 H Q):bP env Tryz.f76 (dep+1) [.code gY] [(0,x0),(1,x1)] H Q:=⟨fun g=>aV (live:=mc) (cut:=me) (n:=500) (Eq.mp (by kernel_rfl) (h g))⟩
noncomputable def nO:Code:=(Tryz.f77.body).getD .skip
def yh:Nat→Option (List Nat):=fun i=>none
def yL:Nat→Bool:=fun i=>false
def gM(dep:Nat)(g:Nat→AV)(x0 x1:AV)(H:ab)(Q:AV→ab→Prop):Prop :=
 aO (zak H dep 3 56 x1) fun v1 H1 =>
 ak (zcd x0) fun v2 =>
 ak (zad 92 v2 3) fun v3 =>
 ak (zab H1 88 v3) fun v4 =>
 ak (zad 56 v1 2) fun v5 =>
 ak (zad 50 v5 1) fun v6 =>
 ak (zab H1 40 v6) fun v7 =>
 ak (zbj H1 88 v4 v7) fun v8 =>
 ak (zcd x0) fun v9 =>
 ak (zad 92 v9 4) fun v10 =>
 ak (zab H1 89 v10) fun v11 =>
 ak (zad 56 v1 2) fun v12 =>
 ak (zad 50 v12 1) fun v13 =>
 ak (zad 40 v13 0) fun v14 =>
 ak (zab H1 35 v14) fun v15 =>
 ak (zbj H1 89 v11 v15) fun v16 =>
 aO (zaq H1 dep 4 119) fun v17 H2 =>
 aO (zaq H2 dep 5 76) fun v18 H3 =>
 aO (zam H3 119 v17 v8) fun v19 H4 =>
 aO (zam H4 76 v18 v16) fun v20 H5 =>
  kC [(v10,v17),(v14,v17),(v11,v17)] [v17,v18] [] H5 ∧
 (ak (zad 119 v17 2) fun v21 =>
 ak (zab H5 3 v21) fun v22 =>
 ak (zae 3 24 1 v22) fun v23 =>
 ak (zad 119 v17 2) fun v24 =>
 aO (zam H5 3 v24 v23) fun v25 H6 =>
 ak (zad 76 v18 2) fun v26 =>
 ak (zab H6 3 v26) fun v27 =>
 ak (zae 3 28 1 v27) fun v28 =>
 ak (zad 76 v18 2) fun v29 =>
 aO (zam H6 3 v29 v28) fun v30 H7 =>
 ak (zad 56 v1 3) fun v31 =>
 ak (zab H7 23 v31) fun v32 =>
 ak (zai 23 32 0 v32) fun v33 =>
 br (some v33) (
 ak (zcd x0) fun v34 =>
 ak (zad 92 v34 5) fun v35 =>
 ak (zab H7 90 v35) fun v36 =>
 ak (zad 56 v1 2) fun v37 =>
 ak (zab H7 50 v37) fun v38 =>
 aO (bn env false (bj env) (bU env (dep+1)) H7 (⟨(dep+1),41,ab.gen H7 (dep+1) 41,0⟩:Ref) (some (.fn (.func 78) [] [])) [v38]) fun v39 H8 =>
 aO (zcg H8 dep 42 90 1 0 v39) fun v40 H9 =>
 aO (zbr H9 dep 43 90 90 v36 v40) fun v41 H10 =>
 ak (zcd x0) fun v42 =>
 ak (zad 92 v42 5) fun v43 =>
 aO (zam H10 90 v43 v41) fun v44 H11 =>
 ak (zad 56 v1 2) fun v45 =>
 ak (zad 50 v45 0) fun v46 =>
 ak (zab H11 5 v46) fun v47 =>
 ak (zbk 5 48 v47) fun v48 =>
 br (some v48) (
 ak (zad 76 v18 3) fun v49 =>
 ak (zab H11 3 v49) fun v50 =>
 ak (zad 56 v1 2) fun v51 =>
 ak (zad 50 v51 3) fun v52 =>
 ak (zad 47 v52 1) fun v53 =>
 ak (zab H11 3 v53) fun v54 =>
 ak (zba 3 51 55 v50 v54) fun v55 =>
 ak (zad 76 v18 3) fun v56 =>
 aO (zam H11 3 v56 v55) fun v57 H12 =>
 ak (zcd x0) fun v58 =>
 ak (zad 92 v58 3) fun v59 =>
 ak (zab H12 88 v59) fun v60 =>
 ak (zad 56 v1 2) fun v61 =>
 ak (zad 50 v61 1) fun v62 =>
 ak (zab H12 40 v62) fun v63 =>
 ak (zcd x0) fun v64 =>
 ak (zad 92 v64 4) fun v65 =>
 ak (zab H12 89 v65) fun v66 =>
 ak (zad 56 v1 2) fun v67 =>
 ak (zad 50 v67 1) fun v68 =>
 ak (zad 40 v68 0) fun v69 =>
 ak (zab H12 35 v69) fun v70 =>
 ak (zab H12 119 v17) fun v71 =>
 ak (zab H12 76 v18) fun v72 =>
 aO (zco H12 88 v60 v63) fun v73 H13 =>
 ak (zbd v73 1) fun v74 =>
 aO (zcn H13 v60 v74 v71) fun v75 H14 =>
 aO (zco H14 89 v66 v70) fun v76 H15 =>
 ak (zbd v76 1) fun v77 =>
 aO (zcn H15 v66 v77 v72) fun v78 H16 =>
  kC [(v69,v60),(v17,v60),(v18,v60),(v18,v66)] [] [] H16 ∧
 (Q (.v (.tuple #[])) H16)) (
 ak (zcd x0) fun v49 =>
 ak (zad 92 v49 3) fun v50 =>
 ak (zab H11 88 v50) fun v51 =>
 ak (zad 56 v1 2) fun v52 =>
 ak (zad 50 v52 1) fun v53 =>
 ak (zab H11 40 v53) fun v54 =>
 ak (zcd x0) fun v55 =>
 ak (zad 92 v55 4) fun v56 =>
 ak (zab H11 89 v56) fun v57 =>
 ak (zad 56 v1 2) fun v58 =>
 ak (zad 50 v58 1) fun v59 =>
 ak (zad 40 v59 0) fun v60 =>
 ak (zab H11 35 v60) fun v61 =>
 ak (zab H11 119 v17) fun v62 =>
 ak (zab H11 76 v18) fun v63 =>
 aO (zco H11 88 v51 v54) fun v64 H12 =>
 ak (zbd v64 1) fun v65 =>
 aO (zcn H12 v51 v65 v62) fun v66 H13 =>
 aO (zco H13 89 v57 v61) fun v67 H14 =>
 ak (zbd v67 1) fun v68 =>
 aO (zcn H14 v57 v68 v63) fun v69 H15 =>
  kC [(v60,v51),(v17,v51),(v18,v51),(v18,v57)] [] [] H15 ∧
 (Q (.v (.tuple #[])) H15))) (
 ak (zcd x0) fun v34 =>
 ak (zad 92 v34 3) fun v35 =>
 ak (zab H7 88 v35) fun v36 =>
 ak (zad 56 v1 2) fun v37 =>
 ak (zad 50 v37 1) fun v38 =>
 ak (zab H7 40 v38) fun v39 =>
 ak (zcd x0) fun v40 =>
 ak (zad 92 v40 4) fun v41 =>
 ak (zab H7 89 v41) fun v42 =>
 ak (zad 56 v1 2) fun v43 =>
 ak (zad 50 v43 1) fun v44 =>
 ak (zad 40 v44 0) fun v45 =>
 ak (zab H7 35 v45) fun v46 =>
 ak (zab H7 119 v17) fun v47 =>
 ak (zab H7 76 v18) fun v48 =>
 aO (zco H7 88 v36 v39) fun v49 H8 =>
 ak (zbd v49 1) fun v50 =>
 aO (zcn H8 v36 v50 v47) fun v51 H9 =>
 aO (zco H9 89 v42 v46) fun v52 H10 =>
 ak (zbd v52 1) fun v53 =>
 aO (zcn H10 v42 v53 v48) fun v54 H11 =>
  kC [(v45,v36),(v17,v36),(v18,v36),(v18,v42)] [] [] H11 ∧
 (Q (.v (.tuple #[])) H11)))
theorem qH(dep:Nat)(x0 x1:AV)(H:ab)(Q:AV→ab→Prop)(h : ∀g,gM dep g x0 x1 H Q):bP env Tryz.f77 (dep+1) [.code nO] [(0,x0),(1,x1)] H Q:=⟨fun g=>aV (live:=yh) (cut:=yL) (n:=500) (Eq.mp (by kernel_rfl) (h g))⟩
noncomputable def qZ:Code:=(Tryz.f79.body).getD .skip
def yg:Nat→Option (List Nat):=fun i=>none
def yK:Nat→Bool:=fun i=>false
def nX(dep:Nat)(g:Nat→AV)(x0 x1:AV)(H:ab)(Q:AV→ab→Prop):Prop :=
 aO (zak H dep 3 56 x1) fun v1 H1 =>
 ak (zcd x0) fun v2 =>
 ak (zad 92 v2 1) fun v3 =>
 ak (zab H1 29 v3) fun v4 =>
 ak (zad 56 v1 4) fun v5 =>
 ak (zab H1 54 v5) fun v6 =>
 aO (zbz dep H1 14 v4 v6) fun v7 H2 =>
 ak (zbd v7 0) fun v8 =>
 ak (zbd v7 1) fun v9 =>
 aO (zaq H2 dep 5 29) fun v10 H3 =>
 aO (zam H3 29 v10 v8) fun v11 H4 =>
 ak (zai 23 17 0 v9) fun v12 =>
 Q v12 H4
theorem xt(dep:Nat)(x0 x1:AV)(H:ab)(Q:AV→ab→Prop)(h : ∀g,nX dep g x0 x1 H Q):bP env Tryz.f79 (dep+1) [.code qZ] [(0,x0),(1,x1)] H Q:=⟨fun g=>aV (live:=yg) (cut:=yK) (n:=500) (Eq.mp (by kernel_rfl) (h g))⟩
noncomputable def qY:Code:=(Tryz.f81.body).getD .skip
def yf:Nat→Option (List Nat):=fun i=>none
def yJ:Nat→Bool:=fun i=>false
def ri(dep:Nat)(g:Nat→AV)(x0 x1:AV)(H:ab)(Q:AV→ab→Prop):Prop :=
 aO (zak H dep 3 56 x1) fun v1 H1 =>
 ak (zcd x0) fun v2 =>
 ak (zad 92 v2 1) fun v3 =>
 ak (zab H1 29 v3) fun v4 =>
 ak (zad 56 v1 4) fun v5 =>
 ak (zab H1 54 v5) fun v6 =>
 aO (zbz dep H1 12 v4 v6) fun v7 H2 =>
 ak (zbd v7 0) fun v8 =>
 ak (zbd v7 1) fun v9 =>
 ak (zcd x0) fun v10 =>
 ak (zad 92 v10 1) fun v11 =>
 aO (zam H2 29 v11 v8) fun v12 H3 =>
 Q (.v (.tuple #[])) H3
theorem xp(dep:Nat)(x0 x1:AV)(H:ab)(Q:AV→ab→Prop)(h : ∀g,ri dep g x0 x1 H Q):bP env Tryz.f81 (dep+1) [.code qY] [(0,x0),(1,x1)] H Q:=⟨fun g=>aV (live:=yf) (cut:=yJ) (n:=500) (Eq.mp (by kernel_rfl) (h g))⟩
end Go.Proofs.YtdbiffjdomokfaaGreat
