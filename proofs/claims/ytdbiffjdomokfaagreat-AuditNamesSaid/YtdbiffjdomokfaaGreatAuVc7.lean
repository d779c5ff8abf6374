/-
  What is to be shown of each function, computed from its code. No statement of a seat is proved here.
-/
import Derived.Test.YtdbiffjdomokfaaGreatAuTy
set_option linter.unusedVariables false
set_option maxRecDepth 1000000
namespace Go.Proofs.YtdbiffjdomokfaaGreat
open Go.Ab
noncomputable def j2:Code:=(Tryz.f41.body).getD .skip
noncomputable def ky:List Item:=(cg 3 400 [.code j2]).getD []
noncomputable def ku:List Item:=(cg 8 400 [.code j2]).getD []
noncomputable def jN:List Item:=(cg 14 400 [.code j2]).getD []
def lR:Nat→Option (List Nat):=fun i=>cond (Nat.beq i 3) (some [27,3,25,1,26]) (cond (Nat.beq i 8) (some [40,1,3,38,39]) (cond (Nat.beq i 14) (some [87,8,85,1,3,86]) (none)))
def lT:Nat→Bool:=fun i=>false
def sZ(g:Nat→AV)(x0:AV)(H:ab)(Q:AV→ab→Prop):Prop :=
 aN (Zc H 1 29 x0) fun v1 H1 =>
 ak (Zd 29 v1 0) fun v2 =>
 ak (Zb H1 26 v2) fun v3 =>
 ak (Zk H1 13 26 v3) fun v4 =>
 ak (Zy 3 13 8 v4) fun v5 =>
 ak (Zd 29 v1 1) fun v6 =>
 ak (Zb H1 27 v6) fun v7 =>
 ak (Zk H1 17 27 v7) fun v8 =>
 ak (Zy 3 17 8 v8) fun v9 =>
 ak (Zd 29 v1 2) fun v10 =>
 ak (Zb H1 3 v10) fun v11 =>
 aN (Za false H1 21 65 [v11,(.v (.int .i64 64))]) fun v12 H2 =>
 aN (eO env.P true false H2 (Ref.mk 0 22 (ab.gen H2 0 22) 0) 148 3 (some [(0,v5),(1,v9),(2,v12)])) fun v13 H3 =>
 aN (Za false H3 23 64 [v13]) fun v14 H4 =>
 ak (Zd 29 v1 0) fun v15 =>
 ak (Zb H4 26 v15) fun v16 =>
 ak (Zk H4 26 26 v16) fun v17 =>
  bW env Tryz.f41 0 ky [(27,(.v (.int .i64 0))),(3,v14),(25,v16),(1,v1),(26,v17)] H4 Q
theorem zp(x0:AV)(H:ab)(Q:AV→ab→Prop)(h : ∀g,sZ g x0 H Q):bW env Tryz.f41 0 [.code j2] [(0,x0)] H Q:=⟨fun g=>aY (live:=lR) (cut:=lT) (n:=500) (Eq.mp (by kernel_rfl) (h g))⟩
def ng(g:Nat→AV)(x27 x3 x25 x1 x26:AV)(H:ab)(Q:AV→ab→Prop):Prop :=
 ak (Zo 3 27 26 x27 x26) fun v1 =>
 br (some v1) (
 ak (Zw H 26 x25 x27) fun v2 =>
 ak (Zb H 52 v2) fun v3 =>
 aN (Zi H 5 52) fun v4 H1 =>
 aN (Zl H1 52 v4 v3) fun v5 H2 =>
 gQ x3 true (Zb H2 52 v4) fun v6 =>
 gW x3 true H2 (Za true H2 34 66 [v6]) fun v7 H3 =>
 ak (Zh x3 v7) fun v8 =>
 ak (Ze 3 27 1 x27) fun v9 =>
  bW env Tryz.f41 0 ky [(27,v9),(3,v8),(25,x25),(1,x1),(26,x26)] H3 Q) (
 ak (Zd 29 x1 1) fun v2 =>
 ak (Zb H 27 v2) fun v3 =>
 ak (Zk H 39 27 v3) fun v4 =>
  bW env Tryz.f41 0 ku [(40,(.v (.int .i64 0))),(1,x1),(3,x3),(38,v3),(39,v4)] H Q)
theorem p7(x27 x3 x25 x1 x26:AV)(H:ab)(Q:AV→ab→Prop)(h : ∀g,ng g x27 x3 x25 x1 x26 H Q):bW env Tryz.f41 0 ky [(27,x27),(3,x3),(25,x25),(1,x1),(26,x26)] H Q:=dG fun g=>aY (live:=lR) (cut:=lT) (n:=500) (Eq.mp (by kernel_rfl) (h g))
def gp(g:Nat→AV)(x40 x1 x3 x38 x39:AV)(H:ab)(Q:AV→ab→Prop):Prop :=
 ak (Zo 3 40 39 x40 x39) fun v1 =>
 br (some v1) (
 ak (Zw H 27 x38 x40) fun v2 =>
 ak (Zb H 76 v2) fun v3 =>
 aN (Zi H 7 76) fun v4 H1 =>
 aN (Zl H1 76 v4 v3) fun v5 H2 =>
 gQ x3 true (Zd 76 v4 0) fun v6 =>
 gQ x3 true (Zb H2 35 v6) fun v7 =>
 gW x3 true H2 (Za false H2 49 33 [v7]) fun v8 H3 =>
 gQ x3 true (Zg 23 49 0 v8) fun v9 =>
 gQ x3 true (Zd 76 v4 1) fun v10 =>
 gQ x3 true (Zb H3 3 v10) fun v11 =>
 gW x3 true H3 (Za false H3 53 65 [v11,(.v (.int .i64 64))]) fun v12 H4 =>
 gQ x3 true (Zd 76 v4 2) fun v13 =>
 gQ x3 true (Zb H4 3 v13) fun v14 =>
 gW x3 true H4 (Za false H4 56 65 [v14,(.v (.int .i64 256))]) fun v15 H5 =>
 gQ x3 true (Zd 76 v4 3) fun v16 =>
 gQ x3 true (Zb H5 3 v16) fun v17 =>
 gW x3 true H5 (Za false H5 59 65 [v17,(.v (.int .i64 4096))]) fun v18 H6 =>
 gQ x3 true (ZN x40) fun v19 =>
 gQ x3 true (Zg 3 60 0 v19) fun v20 =>
 gQ x3 true (ZN v20) fun v21 =>
 gQ v21 false (Zd 29 x1 1) fun v22 =>
 gQ v21 false (Zb H6 27 v22) fun v23 =>
 gQ v21 false (ZN x40) fun v24 =>
 gQ v21 false (Zu 3 65 1 v24) fun v25 =>
 gQ v21 false (aM env.P true (ab.get H6) (Ref.mk 0 67 (ab.gen H6 0 67) 0) .max #[3,3] [v25,(.v (.int .i64 0))]) fun v26 =>
 gQ v21 false (Zw H6 27 v23 v26) fun v27 =>
 gQ v21 false (Zd 76 v27 0) fun v28 =>
 gQ v21 false (Zb H6 35 v28) fun v29 =>
 gQ v21 false (Zd 76 v4 0) fun v30 =>
 gQ v21 false (Zb H6 35 v30) fun v31 =>
 gW v21 false H6 (Za false H6 73 67 [v29,v31]) fun v32 H7 =>
 gQ x3 true (Zn v21 v32) fun v33 =>
 gW x3 true H7 (eO env.P true false H7 (Ref.mk 0 75 (ab.gen H7 0 75) 0) 148 5 (some [(0,v9),(1,v12),(2,v15),(3,v18),(4,v33)])) fun v34 H8 =>
 gW x3 true H8 (Za false H8 76 64 [v34]) fun v35 H9 =>
 ak (Zh x3 v35) fun v36 =>
 ak (Ze 3 40 1 x40) fun v37 =>
  bW env Tryz.f41 0 ku [(40,v37),(1,x1),(3,v36),(38,x38),(39,x39)] H9 Q) (
 ak (Zd 29 x1 1) fun v2 =>
 ak (Zb H 27 v2) fun v3 =>
 ak (Zd 29 x1 1) fun v4 =>
 ak (Zb H 27 v4) fun v5 =>
 ak (Zk H 83 27 v5) fun v6 =>
 ak (aM env.P false (ab.get H) (Ref.mk 0 84 (ab.gen H 0 84) 0) .min #[3,3] [v6,(.v (.int .i64 8))]) fun v7 =>
 ak (ZG H 27 v3 v7) fun v8 =>
 ak (Zk H 86 27 v8) fun v9 =>
  bW env Tryz.f41 0 jN [(87,(.v (.int .i64 0))),(8,(.v (.int .i64 0))),(85,v8),(1,x1),(3,x3),(86,v9)] H Q)
theorem p6(x40 x1 x3 x38 x39:AV)(H:ab)(Q:AV→ab→Prop)(h : ∀g,gp g x40 x1 x3 x38 x39 H Q):bW env Tryz.f41 0 ku [(40,x40),(1,x1),(3,x3),(38,x38),(39,x39)] H Q:=dG fun g=>aY (live:=lR) (cut:=lT) (n:=500) (Eq.mp (by kernel_rfl) (h g))
def mg(g:Nat→AV)(x87 x8 x85 x1 x3 x86:AV)(H:ab)(Q:AV→ab→Prop):Prop :=
 ak (Zo 3 87 86 x87 x86) fun v1 =>
 br (some v1) (
 ak (Zw H 27 x85 x87) fun v2 =>
 ak (Zb H 76 v2) fun v3 =>
 aN (Zi H 10 76) fun v4 H1 =>
 aN (Zl H1 76 v4 v3) fun v5 H2 =>
 ak (Zd 76 v4 3) fun v6 =>
 ak (Zb H2 3 v6) fun v7 =>
 ak (aM env.P false (ab.get H2) (Ref.mk 0 94 (ab.gen H2 0 94) 0) .max #[3,3] [v7,(.v (.int .i64 0))]) fun v8 =>
 ak (aM env.P false (ab.get H2) (Ref.mk 0 95 (ab.gen H2 0 95) 0) .min #[3,3] [v8,(.v (.int .i64 4096))]) fun v9 =>
 ak (ZC 3 91 95 x8 v9) fun v10 =>
 ak (Ze 3 87 1 x87) fun v11 =>
  bW env Tryz.f41 0 jN [(87,v11),(8,v10),(85,x85),(1,x1),(3,x3),(86,x86)] H2 Q) (
 ak (ZH x3) fun v2 =>
 gQ v2 false (Zb H 29 x1) fun v3 =>
 gW v2 false H (Za true H 102 68 [v3]) fun v4 H1 =>
 gQ v2 false (Zt 3 102 2048 v4) fun v5 =>
 ak (Zn v2 v5) fun v6 =>
 gQ v6 false (ZN x8) fun v7 =>
 gQ v6 false (Zt 3 106 8192 v7) fun v8 =>
 ak (Zn v6 v8) fun v9 =>
 br (some v9) (
 Q (.v (.int .i64 8)) H1) (
 Q (.v (.int .i64 0)) H1))
theorem pj(x87 x8 x85 x1 x3 x86:AV)(H:ab)(Q:AV→ab→Prop)(h : ∀g,mg g x87 x8 x85 x1 x3 x86 H Q):bW env Tryz.f41 0 jN [(87,x87),(8,x8),(85,x85),(1,x1),(3,x3),(86,x86)] H Q:=dG fun g=>aY (live:=lR) (cut:=lT) (n:=500) (Eq.mp (by kernel_rfl) (h g))
noncomputable def ud:Code:=(Tryz.f42.body).getD .skip
def AU:Nat→Option (List Nat):=fun i=>none
def Bq:Nat→Bool:=fun i=>false
def uq(g:Nat→AV)(x0:AV)(H:ab)(Q:AV→ab→Prop):Prop :=
 aN (Zc H 1 29 x0) fun v1 H1 =>
 aN (Zi H1 2 29) fun v2 H2 =>
 ak (Zd 29 v1 0) fun v3 =>
 ak (Zb H2 26 v3) fun v4 =>
 aN (Za false H2 5 69 [v4]) fun v5 H3 =>
 ak (Zd 29 v1 1) fun v6 =>
 ak (Zb H3 27 v6) fun v7 =>
 aN (Za false H3 8 70 [v7]) fun v8 H4 =>
 ak (Zd 29 v1 0) fun v9 =>
 aN (Zl H4 26 v9 v5) fun v10 H5 =>
 ak (Zd 29 v1 1) fun v11 =>
 aN (Zl H5 27 v11 v8) fun v12 H6 =>
 ak (Zb H6 29 v1) fun v13 =>
 aN (Zl H6 29 v2 v13) fun v14 H7 =>
 ak (Y5 H7 v2 29) fun v15 =>
 Q v15 H7
theorem Ac(x0:AV)(H:ab)(Q:AV→ab→Prop)(h : ∀g,uq g x0 H Q):bW env Tryz.f42 0 [.code ud] [(0,x0)] H Q:=⟨fun g=>aY (live:=AU) (cut:=Bq) (n:=500) (Eq.mp (by kernel_rfl) (h g))⟩
noncomputable def vm:Code:=(Tryz.f64.body).getD .skip
def Cc:Nat→Option (List Nat):=fun i=>none
def Cn:Nat→Bool:=fun i=>false
def vA(g:Nat→AV)(x0:AV)(H:ab)(Q:AV→ab→Prop):Prop :=
 aN (Za true H 4 90 [x0,(.v (.bool false))]) fun v1 H1 =>
 ak (ZH v1) fun v2 =>
 Q v2 H1
theorem BR(x0:AV)(H:ab)(Q:AV→ab→Prop)(h : ∀g,vA g x0 H Q):bW env Tryz.f64 0 [.code vm] [(0,x0)] H Q:=⟨fun g=>aY (live:=Cc) (cut:=Cn) (n:=500) (Eq.mp (by kernel_rfl) (h g))⟩
noncomputable def uc:Code:=(Tryz.f65.body).getD .skip
def AT:Nat→Option (List Nat):=fun i=>none
def Bp:Nat→Bool:=fun i=>false
def uo(g:Nat→AV)(x0 x1:AV)(H:ab)(Q:AV→ab→Prop):Prop :=
 ak (Zm 3 5 0 x0) fun v1 =>
 gQ v1 true (ZN x0) fun v2 =>
 gQ v1 true (ZN x1) fun v3 =>
 gQ v1 true (aE env.P .leq 3 (Operand.tmp 8) (Operand.tmp 9) (some v2) (some v3)) fun v4 =>
 ak (Zh v1 v4) fun v5 =>
 Q v5 H
theorem Aa(x0 x1:AV)(H:ab)(Q:AV→ab→Prop)(h : ∀g,uo g x0 x1 H Q):bW env Tryz.f65 0 [.code uc] [(0,x0),(1,x1)] H Q:=⟨fun g=>aY (live:=AT) (cut:=Bp) (n:=500) (Eq.mp (by kernel_rfl) (h g))⟩
noncomputable def sR:Code:=(Tryz.f66.body).getD .skip
def zy:Nat→Option (List Nat):=fun i=>none
def zG:Nat→Bool:=fun i=>false
def sW(g:Nat→AV)(x0:AV)(H:ab)(Q:AV→ab→Prop):Prop :=
 aN (Zc H 1 52 x0) fun v1 H1 =>
 ak (Zd 52 v1 0) fun v2 =>
 ak (Zb H1 35 v2) fun v3 =>
 aN (Za false H1 5 33 [v3]) fun v4 H2 =>
 ak (Zg 23 5 0 v4) fun v5 =>
 gQ v5 true (Zd 52 v1 1) fun v6 =>
 gQ v5 true (Zb H2 4 v6) fun v7 =>
 gQ v5 true (ZN v7) fun v8 =>
 gQ v8 false (Zd 52 v1 0) fun v9 =>
 gQ v8 false (Zb H2 35 v9) fun v10 =>
 gW v8 false H2 (Za false H2 13 91 []) fun v11 H3 =>
 gQ v8 false (Zp 35 12 13 v10 v11) fun v12 =>
 gQ v5 true (Zn v8 v12) fun v13 =>
 ak (Zh v5 v13) fun v14 =>
 Q v14 H3
theorem zm(x0:AV)(H:ab)(Q:AV→ab→Prop)(h : ∀g,sW g x0 H Q):bW env Tryz.f66 0 [.code sR] [(0,x0)] H Q:=⟨fun g=>aY (live:=zy) (cut:=zG) (n:=500) (Eq.mp (by kernel_rfl) (h g))⟩
noncomputable def nT:Code:=(Tryz.f68.body).getD .skip
noncomputable def jM:List Item:=(cg 3 400 [.code nT]).getD []
def rA:Nat→Option (List Nat):=fun i=>cond (Nat.beq i 3) (some [11,3,9,10]) (none)
def rI:Nat→Bool:=fun i=>false
def rR(g:Nat→AV)(x0:AV)(H:ab)(Q:AV→ab→Prop):Prop :=
 aN (Zc H 1 29 x0) fun v1 H1 =>
 ak (Zd 29 v1 2) fun v2 =>
 ak (Zb H1 3 v2) fun v3 =>
 ak (Zd 29 v1 1) fun v4 =>
 ak (Zb H1 27 v4) fun v5 =>
 ak (Zk H1 10 27 v5) fun v6 =>
  bW env Tryz.f68 0 jM [(11,(.v (.int .i64 0))),(3,v3),(9,v5),(10,v6)] H1 Q
theorem ya(x0:AV)(H:ab)(Q:AV→ab→Prop)(h : ∀g,rR g x0 H Q):bW env Tryz.f68 0 [.code nT] [(0,x0)] H Q:=⟨fun g=>aY (live:=rA) (cut:=rI) (n:=500) (Eq.mp (by kernel_rfl) (h g))⟩
def mf(g:Nat→AV)(x11 x3 x9 x10:AV)(H:ab)(Q:AV→ab→Prop):Prop :=
 ak (Zo 3 11 10 x11 x10) fun v1 =>
 br (some v1) (
 ak (Zw H 27 x9 x11) fun v2 =>
 ak (Zb H 76 v2) fun v3 =>
 aN (Zi H 5 76) fun v4 H1 =>
 aN (Zl H1 76 v4 v3) fun v5 H2 =>
 ak (Zd 76 v4 1) fun v6 =>
 ak (Zb H2 3 v6) fun v7 =>
 ak (Zd 76 v4 2) fun v8 =>
 ak (Zb H2 3 v8) fun v9 =>
 ak (ZW 3 4 19 v9) fun v10 =>
 ak (ZC 3 17 20 v7 v10) fun v11 =>
 ak (ZC 3 15 21 x3 v11) fun v12 =>
 ak (Ze 3 11 1 x11) fun v13 =>
  bW env Tryz.f68 0 jM [(11,v13),(3,v12),(9,x9),(10,x10)] H2 Q) (
 Q x3 H)
theorem ph(x11 x3 x9 x10:AV)(H:ab)(Q:AV→ab→Prop)(h : ∀g,mf g x11 x3 x9 x10 H Q):bW env Tryz.f68 0 jM [(11,x11),(3,x3),(9,x9),(10,x10)] H Q:=dG fun g=>aY (live:=rA) (cut:=rI) (n:=500) (Eq.mp (by kernel_rfl) (h g))
noncomputable def bE:Code:=(Tryz.f69.body).getD .skip
def fp:Nat→Option (List Nat):=fun i=>none
def fu:Nat→Bool:=fun i=>false
def bG(g:Nat→AV)(x0:AV)(H:ab)(Q:AV→ab→Prop):Prop :=
 ak (ZP 26 3 x0) fun v1 =>
 br (some v1) (
 Q (.v (.slice none 0 0)) H) (
 aN (Z9 H 5 26 0) fun v2 H1 =>
 aN (Zr H1 7 26 26 v2 x0) fun v3 H2 =>
 Q v3 H2)
theorem bZ(x0:AV)(H:ab)(Q:AV→ab→Prop)(h : ∀g,bG g x0 H Q):bW env Tryz.f69 0 [.code bE] [(0,x0)] H Q:=⟨fun g=>aY (live:=fp) (cut:=fu) (n:=500) (Eq.mp (by kernel_rfl) (h g))⟩
noncomputable def bD:Code:=(Tryz.f70.body).getD .skip
def fm:Nat→Option (List Nat):=fun i=>none
def fq:Nat→Bool:=fun i=>false
def bF(g:Nat→AV)(x0:AV)(H:ab)(Q:AV→ab→Prop):Prop :=
 ak (ZP 27 3 x0) fun v1 =>
 br (some v1) (
 Q (.v (.slice none 0 0)) H) (
 aN (Z9 H 5 27 0) fun v2 H1 =>
 aN (Zr H1 7 27 27 v2 x0) fun v3 H2 =>
 Q v3 H2)
theorem bY(x0:AV)(H:ab)(Q:AV→ab→Prop)(h : ∀g,bF g x0 H Q):bW env Tryz.f70 0 [.code bD] [(0,x0)] H Q:=⟨fun g=>aY (live:=fm) (cut:=fq) (n:=500) (Eq.mp (by kernel_rfl) (h g))⟩
noncomputable def jf:Code:=(Tryz.f90.body).getD .skip
def nz:Nat→Option (List Nat):=fun i=>none
def nA:Nat→Bool:=fun i=>false
def jg(g:Nat→AV)(x0 x1:AV)(H:ab)(Q:AV→ab→Prop):Prop :=
 aN (Za true H 7 110 [x0,x1]) fun v1 H1 =>
 ak (Zm 3 7 0 v1) fun v2 =>
 Q v2 H1
theorem ny(x0 x1:AV)(H:ab)(Q:AV→ab→Prop)(h : ∀g,jg g x0 x1 H Q):bW env Tryz.f90 0 [.code jf] [(0,x0),(1,x1)] H Q:=⟨fun g=>aY (live:=nz) (cut:=nA) (n:=500) (Eq.mp (by kernel_rfl) (h g))⟩
noncomputable def sT:Code:=(Tryz.f92.body).getD .skip
def zB:Nat→Option (List Nat):=fun i=>none
def zI:Nat→Bool:=fun i=>false
def sY(g:Nat→AV)(x0 x1:AV)(H:ab)(Q:AV→ab→Prop):Prop :=
 aN (Zc H 2 29 x0) fun v1 H1 =>
 aN (Zc H1 3 35 x1) fun v2 H2 =>
 aN (Zi H2 4 76) fun v3 H3 =>
 ak (Zb H3 29 v1) fun v4 =>
 ak (Zb H3 35 v2) fun v5 =>
 aN (Za true H3 11 111 [v4,v5]) fun v6 H4 =>
 ak (Zf 23 12 0 v6) fun v7 =>
 br (some v7) (
 ak (ZV 76) fun v8 =>
 aN (Zl H4 76 v3 v8) fun v9 H5 =>
 ak (Y5 H5 v3 76) fun v10 =>
 Q (.tup [v10,v6]) H5) (
 ak (Zd 29 v1 1) fun v8 =>
 ak (Zb H4 27 v8) fun v9 =>
 ak (Zb H4 35 v2) fun v10 =>
 aN (Za true H4 20 112 [v9,v10,(.fn (.func 113) [] [])]) fun v11 H5 =>
 ak (ZB v11 0) fun v12 =>
 ak (ZB v11 1) fun v13 =>
 aN (Zi H5 7 76) fun v14 H6 =>
 aN (Zl H6 76 v14 v12) fun v15 H7 =>
 ak (ZH v13) fun v16 =>
 br (some v16) (
 ak (Zb H7 35 v2) fun v17 =>
 ak (Zd 76 v14 0) fun v18 =>
 aN (Zl H7 35 v18 v17) fun v19 H8 =>
 ak (Zb H8 76 v14) fun v20 =>
 aN (Zl H8 76 v3 v20) fun v21 H9 =>
 ak (Y5 H9 v3 76) fun v22 =>
 Q (.tup [v22,(.v (.int .i64 0))]) H9) (
 ak (Zb H7 76 v14) fun v17 =>
 aN (Zl H7 76 v3 v17) fun v18 H8 =>
 ak (Y5 H8 v3 76) fun v19 =>
 Q (.tup [v19,(.v (.int .i64 0))]) H8))
theorem zo(x0 x1:AV)(H:ab)(Q:AV→ab→Prop)(h : ∀g,sY g x0 x1 H Q):bW env Tryz.f92 0 [.code sT] [(0,x0),(1,x1)] H Q:=⟨fun g=>aY (live:=zB) (cut:=zI) (n:=500) (Eq.mp (by kernel_rfl) (h g))⟩
noncomputable def vn:Code:=(Tryz.f93.body).getD .skip
def Cd:Nat→Option (List Nat):=fun i=>none
def Co:Nat→Bool:=fun i=>false
def vB(g:Nat→AV)(x0 x1 x2:AV)(H:ab)(Q:AV→ab→Prop):Prop :=
 aN (Zc H 3 29 x0) fun v1 H1 =>
 aN (Zc H1 5 35 x2) fun v2 H2 =>
 ak (Zb H2 29 v1) fun v3 =>
 ak (Zb H2 35 v2) fun v4 =>
 aN (Za true H2 12 111 [v3,v4]) fun v5 H3 =>
 ak (Zf 23 13 0 v5) fun v6 =>
 br (some v6) (
 Q (.tup [(.v (.bool false)),v5]) H3) (
 ak (Zs 3 16 0 x1) fun v7 =>
 gQ v7 false (ZN x1) fun v8 =>
 gQ v7 false (Zd 29 v1 0) fun v9 =>
 gQ v7 false (Zb H3 26 v9) fun v10 =>
 gQ v7 false (Zk H3 22 26 v10) fun v11 =>
 gQ v7 false (Z6 3 19 22 v8 v11) fun v12 =>
 ak (Zn v7 v12) fun v13 =>
 br (some v13) (
 Q (.tup [(.v (.bool false)),(.v (.int .i64 0))]) H3) (
 ak (Zd 29 v1 0) fun v14 =>
 ak (Zb H3 26 v14) fun v15 =>
 ak (Zw H3 26 v15 x1) fun v16 =>
 ak (Zb H3 52 v16) fun v17 =>
 aN (Zi H3 9 52) fun v18 H4 =>
 aN (Zl H4 52 v18 v17) fun v19 H5 =>
 ak (Zd 52 v18 1) fun v20 =>
 ak (Zb H5 4 v20) fun v21 =>
 gQ v21 true (Zb H5 35 v2) fun v22 =>
 gQ v21 true (Zd 52 v18 0) fun v23 =>
 gQ v21 true (Zb H5 35 v23) fun v24 =>
 gW v21 true H5 (Za true H5 36 20 [v22,v24]) fun v25 H6 =>
 ak (Zh v21 v25) fun v26 =>
 Q (.tup [v26,(.v (.int .i64 0))]) H6))
theorem BS(x0 x1 x2:AV)(H:ab)(Q:AV→ab→Prop)(h : ∀g,vB g x0 x1 x2 H Q):bW env Tryz.f93 0 [.code vn] [(0,x0),(1,x1),(2,x2)] H Q:=⟨fun g=>aY (live:=Cd) (cut:=Co) (n:=500) (Eq.mp (by kernel_rfl) (h g))⟩
noncomputable def gz:Code:=(Tryz.f110.body).getD .skip
noncomputable def ew:List Item:=(cg 2 400 [.code gz]).getD []
def jV:Nat→Option (List Nat):=fun i=>cond (Nat.beq i 2) (some [8,0,1,7]) (none)
def jZ:Nat→Bool:=fun i=>false
def j5(g:Nat→AV)(x0 x1:AV)(H:ab)(Q:AV→ab→Prop):Prop :=
 ak (Zk H 7 148 x0) fun v1 =>
  bW env Tryz.f110 0 ew [(8,(.v (.int .i64 0))),(0,x0),(1,x1),(7,v1)] H Q
theorem oL(x0 x1:AV)(H:ab)(Q:AV→ab→Prop)(h : ∀g,j5 g x0 x1 H Q):bW env Tryz.f110 0 [.code gz] [(0,x0),(1,x1)] H Q:=⟨fun g=>aY (live:=jV) (cut:=jZ) (n:=500) (Eq.mp (by kernel_rfl) (h g))⟩
def fO(g:Nat→AV)(x8 x0 x1 x7:AV)(H:ab)(Q:AV→ab→Prop):Prop :=
 ak (Zo 3 8 7 x8 x7) fun v1 =>
 br (some v1) (
 ak (Zw H 148 x0 x8) fun v2 =>
 ak (Zb H 4 v2) fun v3 =>
 ak (Zp 4 11 15 x1 v3) fun v4 =>
 br (some v4) (
 Q x8 H) (
 ak (Ze 3 8 1 x8) fun v5 =>
  bW env Tryz.f110 0 ew [(8,v5),(0,x0),(1,x1),(7,x7)] H Q)) (
 Q (.v (.int .i64 (-1))) H)
theorem ji(x8 x0 x1 x7:AV)(H:ab)(Q:AV→ab→Prop)(h : ∀g,fO g x8 x0 x1 x7 H Q):bW env Tryz.f110 0 ew [(8,x8),(0,x0),(1,x1),(7,x7)] H Q:=dG fun g=>aY (live:=jV) (cut:=jZ) (n:=500) (Eq.mp (by kernel_rfl) (h g))
noncomputable def sS:Code:=(Tryz.f111.body).getD .skip
def zA:Nat→Option (List Nat):=fun i=>none
def zH:Nat→Bool:=fun i=>false
def sX(g:Nat→AV)(x0 x1:AV)(H:ab)(Q:AV→ab→Prop):Prop :=
 aN (Zc H 2 29 x0) fun v1 H1 =>
 aN (Zc H1 3 35 x1) fun v2 H2 =>
 ak (Zb H2 29 v1) fun v3 =>
 aN (Za false H2 6 41 [v3]) fun v4 H3 =>
 ak (Zb H3 35 v2) fun v5 =>
 aN (Za false H3 8 33 [v5]) fun v6 H4 =>
 ak (aM env.P true (ab.get H4) (Ref.mk 0 9 (ab.gen H4 0 9) 0) .max #[23,23] [v4,v6]) fun v7 =>
 Q v7 H4
theorem zn(x0 x1:AV)(H:ab)(Q:AV→ab→Prop)(h : ∀g,sX g x0 x1 H Q):bW env Tryz.f111 0 [.code sS] [(0,x0),(1,x1)] H Q:=⟨fun g=>aY (live:=zA) (cut:=zH) (n:=500) (Eq.mp (by kernel_rfl) (h g))⟩
noncomputable def dM:Code:=(Tryz.f112.body).getD .skip
def fV:Nat→Option (List Nat):=fun i=>none
def fW:Nat→Bool:=fun i=>false
def dO(g:Nat→AV)(x0 x1 x2:AV)(H:ab)(Q:AV→ab→Prop):Prop :=
 aN (Zc H 4 35 x1) fun v1 H1 =>
 aN (Zc H1 5 178 x2) fun v2 H2 =>
 aN (Zi H2 6 76) fun v3 H3 =>
 ak (rp (.func 129) (some []) (some [v2,v1])) fun v4 =>
 aN (Za true H3 11 128 [x0,v4]) fun v5 H4 =>
 ak (Zs 3 12 0 v5) fun v6 =>
 br (some v6) (
 ak (Zb H4 76 v3) fun v7 =>
 aN (Zl H4 76 v3 v7) fun v8 H5 =>
 ak (Y5 H5 v3 76) fun v9 =>
 Q (.tup [v9,(.v (.bool false))]) H5) (
 ak (Zw H4 27 x0 v5) fun v7 =>
 ak (Zb H4 76 v7) fun v8 =>
 aN (Zl H4 76 v3 v8) fun v9 H5 =>
 ak (Y5 H5 v3 76) fun v10 =>
 Q (.tup [v10,(.v (.bool true))]) H5)
theorem fS(x0 x1 x2:AV)(H:ab)(Q:AV→ab→Prop)(h : ∀g,dO g x0 x1 x2 H Q):bW env Tryz.f112 0 [.code dM] [(0,x0),(1,x1),(2,x2)] H Q:=⟨fun g=>aY (live:=fV) (cut:=fW) (n:=500) (Eq.mp (by kernel_rfl) (h g))⟩
noncomputable def qu:Code:=(Tryz.f113.body).getD .skip
def wZ:Nat→Option (List Nat):=fun i=>none
def xv:Nat→Bool:=fun i=>false
def qC(g:Nat→AV)(x0:AV)(H:ab)(Q:AV→ab→Prop):Prop :=
 aN (Zc H 1 76 x0) fun v1 H1 =>
 aN (Zi H1 2 35) fun v2 H2 =>
 ak (Zd 76 v1 0) fun v3 =>
 ak (Zb H2 35 v3) fun v4 =>
 aN (Zl H2 35 v2 v4) fun v5 H3 =>
 ak (Y5 H3 v2 35) fun v6 =>
 Q v6 H3
theorem wg(x0:AV)(H:ab)(Q:AV→ab→Prop)(h : ∀g,qC g x0 H Q):bW env Tryz.f113 0 [.code qu] [(0,x0)] H Q:=⟨fun g=>aY (live:=wZ) (cut:=xv) (n:=500) (Eq.mp (by kernel_rfl) (h g))⟩
noncomputable def bT:Code:=(Tryz.f128.body).getD .skip
noncomputable def bt:List Item:=(cg 2 400 [.code bT]).getD []
def cN:Nat→Option (List Nat):=fun i=>cond (Nat.beq i 2) (some [8,0,1,7]) (none)
def cO:Nat→Bool:=fun i=>false
def cP(g:Nat→AV)(x0 x1:AV)(H:ab)(Q:AV→ab→Prop):Prop :=
 ak (Zk H 7 27 x0) fun v1 =>
  bW env Tryz.f128 0 bt [(8,(.v (.int .i64 0))),(0,x0),(1,x1),(7,v1)] H Q
theorem eP(x0 x1:AV)(H:ab)(Q:AV→ab→Prop)(h : ∀g,cP g x0 x1 H Q):bW env Tryz.f128 0 [.code bT] [(0,x0),(1,x1)] H Q:=⟨fun g=>aY (live:=cN) (cut:=cO) (n:=500) (Eq.mp (by kernel_rfl) (h g))⟩
def bP(g:Nat→AV)(x8 x0 x1 x7:AV)(H:ab)(Q:AV→ab→Prop):Prop :=
 ak (Zo 3 8 7 x8 x7) fun v1 =>
 br (some v1) (
 ak (Zw H 27 x0 x8) fun v2 =>
 ak (Zb H 76 v2) fun v3 =>
 aN (ZE H 16 x1 v3) fun v4 H1 =>
 br (some v4) (
 Q x8 H1) (
 ak (Ze 3 8 1 x8) fun v5 =>
  bW env Tryz.f128 0 bt [(8,v5),(0,x0),(1,x1),(7,x7)] H1 Q)) (
 Q (.v (.int .i64 (-1))) H)
theorem cI(x8 x0 x1 x7:AV)(H:ab)(Q:AV→ab→Prop)(h : ∀g,bP g x8 x0 x1 x7 H Q):bW env Tryz.f128 0 bt [(8,x8),(0,x0),(1,x1),(7,x7)] H Q:=dG fun g=>aY (live:=cN) (cut:=cO) (n:=500) (Eq.mp (by kernel_rfl) (h g))
noncomputable def dy:Code:=(Tryz.f129.body).getD .skip
def fC:Nat→Option (List Nat):=fun i=>none
def fE:Nat→Bool:=fun i=>false
def dz(g:Nat→AV)(x0 x1 x2:AV)(H:ab)(Q:AV→ab→Prop):Prop :=
 aN (Zc H 3 76 x0) fun v1 H1 =>
 ak (Zb H1 178 x1) fun v2 =>
 ak (Zb H1 76 v1) fun v3 =>
 aN (bm env false (bj env) (bR env 0) H1 (Ref.mk 0 7 (ab.gen H1 0 7) 0) (some v2) [v3]) fun v4 H2 =>
 ak (Zb H2 35 x2) fun v5 =>
 ak (Zp 35 7 8 v4 v5) fun v6 =>
 Q v6 H2
theorem fA(x0 x1 x2:AV)(H:ab)(Q:AV→ab→Prop)(h : ∀g,dz g x0 x1 x2 H Q):bW env Tryz.f129 0 [.code dy] [(0,x0),(1,x1),(2,x2)] H Q:=⟨fun g=>aY (live:=fC) (cut:=fE) (n:=500) (Eq.mp (by kernel_rfl) (h g))⟩
end Go.Proofs.YtdbiffjdomokfaaGreat
