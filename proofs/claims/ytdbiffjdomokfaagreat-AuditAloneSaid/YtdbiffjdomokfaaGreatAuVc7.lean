/-
  What is to be shown of each function, computed from its code. No statement of a seat is proved here.
-/
import Derived.Test.YtdbiffjdomokfaaGreatAuTy
set_option linter.unusedVariables false
set_option maxRecDepth 1000000
namespace Go.Proofs.YtdbiffjdomokfaaGreat
open Go.Ab
noncomputable def mE:Code:=(Tryz.f25.body).getD .skip
def rY:Nat→Option (List Nat):=fun i=>none
def sc:Nat→Bool:=fun i=>false
def mH(g:Nat→AV)(x0:AV)(H:ab)(Q:AV→ab→Prop):Prop :=
 aO (zac H 1 29 x0) fun v1 H1 =>
 ak (zad 29 v1 0) fun v2 =>
 ak (zab H1 26 v2) fun v3 =>
 ak (zah H1 5 26 v3) fun v4 =>
 ak (zar 3 5 100 v4) fun v5 =>
 gQ v5 false (zad 29 v1 1) fun v6 =>
 gQ v5 false (zab H1 27 v6) fun v7 =>
 gQ v5 false (zah H1 10 27 v7) fun v8 =>
 gQ v5 false (zar 3 10 100 v8) fun v9 =>
 ak (zal v5 v9) fun v10 =>
 Q v10 H1
theorem rT(x0:AV)(H:ab)(Q:AV→ab→Prop)(h : ∀g,mH g x0 H Q):bT env Tryz.f25 0 [.code mE] [(0,x0)] H Q:=⟨fun g=>aX (live:=rY) (cut:=sc) (n:=500) (Eq.mp (by kernel_rfl) (h g))⟩
noncomputable def kP:Code:=(Tryz.f41.body).getD .skip
noncomputable def k9:List Item:=(b7 3 400 [.code kP]).getD []
noncomputable def k8:List Item:=(b7 8 400 [.code kP]).getD []
noncomputable def ky:List Item:=(b7 14 400 [.code kP]).getD []
def mJ:Nat→Option (List Nat):=fun i=>cond (Nat.beq i 3) (some [27,3,25,1,26]) (cond (Nat.beq i 8) (some [40,1,3,38,39]) (cond (Nat.beq i 14) (some [87,8,85,1,3,86]) (none)))
def mL:Nat→Bool:=fun i=>false
def uF(g:Nat→AV)(x0:AV)(H:ab)(Q:AV→ab→Prop):Prop :=
 aO (zac H 1 29 x0) fun v1 H1 =>
 ak (zad 29 v1 0) fun v2 =>
 ak (zab H1 26 v2) fun v3 =>
 ak (zah H1 13 26 v3) fun v4 =>
 ak (zay 3 13 8 v4) fun v5 =>
 ak (zad 29 v1 1) fun v6 =>
 ak (zab H1 27 v6) fun v7 =>
 ak (zah H1 17 27 v7) fun v8 =>
 ak (zay 3 17 8 v8) fun v9 =>
 ak (zad 29 v1 2) fun v10 =>
 ak (zab H1 3 v10) fun v11 =>
 aO (zaa false H1 21 65 [v11,(.v (.int .i64 64))]) fun v12 H2 =>
 aO (fa env.P true false H2 (Ref.mk 0 22 (ab.gen H2 0 22) 0) 148 3 (some [(0,v5),(1,v9),(2,v12)])) fun v13 H3 =>
 aO (zaa false H3 23 64 [v13]) fun v14 H4 =>
 ak (zad 29 v1 0) fun v15 =>
 ak (zab H4 26 v15) fun v16 =>
 ak (zah H4 26 26 v16) fun v17 =>
  bT env Tryz.f41 0 k9 [(27,(.v (.int .i64 0))),(3,v14),(25,v16),(1,v1),(26,v17)] H4 Q
theorem AX(x0:AV)(H:ab)(Q:AV→ab→Prop)(h : ∀g,uF g x0 H Q):bT env Tryz.f41 0 [.code kP] [(0,x0)] H Q:=⟨fun g=>aX (live:=mJ) (cut:=mL) (n:=500) (Eq.mp (by kernel_rfl) (h g))⟩
def oh(g:Nat→AV)(x27 x3 x25 x1 x26:AV)(H:ab)(Q:AV→ab→Prop):Prop :=
 ak (zao 3 27 26 x27 x26) fun v1 =>
 br (some v1) (
 ak (zau H 26 x25 x27) fun v2 =>
 ak (zab H 52 v2) fun v3 =>
 aO (zaj H 5 52) fun v4 H1 =>
 aO (zam H1 52 v4 v3) fun v5 H2 =>
 gQ x3 true (zab H2 52 v4) fun v6 =>
 gW x3 true H2 (zaa true H2 34 66 [v6]) fun v7 H3 =>
 ak (zag x3 v7) fun v8 =>
 ak (zae 3 27 1 x27) fun v9 =>
  bT env Tryz.f41 0 k9 [(27,v9),(3,v8),(25,x25),(1,x1),(26,x26)] H3 Q) (
 ak (zad 29 x1 1) fun v2 =>
 ak (zab H 27 v2) fun v3 =>
 ak (zah H 39 27 v3) fun v4 =>
  bT env Tryz.f41 0 k8 [(40,(.v (.int .i64 0))),(1,x1),(3,x3),(38,v3),(39,v4)] H Q)
theorem qW(x27 x3 x25 x1 x26:AV)(H:ab)(Q:AV→ab→Prop)(h : ∀g,oh g x27 x3 x25 x1 x26 H Q):bT env Tryz.f41 0 k9 [(27,x27),(3,x3),(25,x25),(1,x1),(26,x26)] H Q:=dx fun g=>aX (live:=mJ) (cut:=mL) (n:=500) (Eq.mp (by kernel_rfl) (h g))
def gP(g:Nat→AV)(x40 x1 x3 x38 x39:AV)(H:ab)(Q:AV→ab→Prop):Prop :=
 ak (zao 3 40 39 x40 x39) fun v1 =>
 br (some v1) (
 ak (zau H 27 x38 x40) fun v2 =>
 ak (zab H 76 v2) fun v3 =>
 aO (zaj H 7 76) fun v4 H1 =>
 aO (zam H1 76 v4 v3) fun v5 H2 =>
 gQ x3 true (zad 76 v4 0) fun v6 =>
 gQ x3 true (zab H2 35 v6) fun v7 =>
 gW x3 true H2 (zaa false H2 49 33 [v7]) fun v8 H3 =>
 gQ x3 true (zai 23 49 0 v8) fun v9 =>
 gQ x3 true (zad 76 v4 1) fun v10 =>
 gQ x3 true (zab H3 3 v10) fun v11 =>
 gW x3 true H3 (zaa false H3 53 65 [v11,(.v (.int .i64 64))]) fun v12 H4 =>
 gQ x3 true (zad 76 v4 2) fun v13 =>
 gQ x3 true (zab H4 3 v13) fun v14 =>
 gW x3 true H4 (zaa false H4 56 65 [v14,(.v (.int .i64 256))]) fun v15 H5 =>
 gQ x3 true (zad 76 v4 3) fun v16 =>
 gQ x3 true (zab H5 3 v16) fun v17 =>
 gW x3 true H5 (zaa false H5 59 65 [v17,(.v (.int .i64 4096))]) fun v18 H6 =>
 gQ x3 true (zbj x40) fun v19 =>
 gQ x3 true (zai 3 60 0 v19) fun v20 =>
 gQ x3 true (zbj v20) fun v21 =>
 gQ v21 false (zad 29 x1 1) fun v22 =>
 gQ v21 false (zab H6 27 v22) fun v23 =>
 gQ v21 false (zbj x40) fun v24 =>
 gQ v21 false (zav 3 65 1 v24) fun v25 =>
 gQ v21 false (aJ env.P true (ab.get H6) (Ref.mk 0 67 (ab.gen H6 0 67) 0) .max #[3,3] [v25,(.v (.int .i64 0))]) fun v26 =>
 gQ v21 false (zau H6 27 v23 v26) fun v27 =>
 gQ v21 false (zad 76 v27 0) fun v28 =>
 gQ v21 false (zab H6 35 v28) fun v29 =>
 gQ v21 false (zad 76 v4 0) fun v30 =>
 gQ v21 false (zab H6 35 v30) fun v31 =>
 gW v21 false H6 (zaa false H6 73 67 [v29,v31]) fun v32 H7 =>
 gQ x3 true (zal v21 v32) fun v33 =>
 gW x3 true H7 (fa env.P true false H7 (Ref.mk 0 75 (ab.gen H7 0 75) 0) 148 5 (some [(0,v9),(1,v12),(2,v15),(3,v18),(4,v33)])) fun v34 H8 =>
 gW x3 true H8 (zaa false H8 76 64 [v34]) fun v35 H9 =>
 ak (zag x3 v35) fun v36 =>
 ak (zae 3 40 1 x40) fun v37 =>
  bT env Tryz.f41 0 k8 [(40,v37),(1,x1),(3,v36),(38,x38),(39,x39)] H9 Q) (
 ak (zad 29 x1 1) fun v2 =>
 ak (zab H 27 v2) fun v3 =>
 ak (zad 29 x1 1) fun v4 =>
 ak (zab H 27 v4) fun v5 =>
 ak (zah H 83 27 v5) fun v6 =>
 ak (aJ env.P false (ab.get H) (Ref.mk 0 84 (ab.gen H 0 84) 0) .min #[3,3] [v6,(.v (.int .i64 8))]) fun v7 =>
 ak (zbf H 27 v3 v7) fun v8 =>
 ak (zah H 86 27 v8) fun v9 =>
  bT env Tryz.f41 0 ky [(87,(.v (.int .i64 0))),(8,(.v (.int .i64 0))),(85,v8),(1,x1),(3,x3),(86,v9)] H Q)
theorem qV(x40 x1 x3 x38 x39:AV)(H:ab)(Q:AV→ab→Prop)(h : ∀g,gP g x40 x1 x3 x38 x39 H Q):bT env Tryz.f41 0 k8 [(40,x40),(1,x1),(3,x3),(38,x38),(39,x39)] H Q:=dx fun g=>aX (live:=mJ) (cut:=mL) (n:=500) (Eq.mp (by kernel_rfl) (h g))
def mZ(g:Nat→AV)(x87 x8 x85 x1 x3 x86:AV)(H:ab)(Q:AV→ab→Prop):Prop :=
 ak (zao 3 87 86 x87 x86) fun v1 =>
 br (some v1) (
 ak (zau H 27 x85 x87) fun v2 =>
 ak (zab H 76 v2) fun v3 =>
 aO (zaj H 10 76) fun v4 H1 =>
 aO (zam H1 76 v4 v3) fun v5 H2 =>
 ak (zad 76 v4 3) fun v6 =>
 ak (zab H2 3 v6) fun v7 =>
 ak (aJ env.P false (ab.get H2) (Ref.mk 0 94 (ab.gen H2 0 94) 0) .max #[3,3] [v7,(.v (.int .i64 0))]) fun v8 =>
 ak (aJ env.P false (ab.get H2) (Ref.mk 0 95 (ab.gen H2 0 95) 0) .min #[3,3] [v8,(.v (.int .i64 4096))]) fun v9 =>
 ak (zbd 3 91 95 x8 v9) fun v10 =>
 ak (zae 3 87 1 x87) fun v11 =>
  bT env Tryz.f41 0 ky [(87,v11),(8,v10),(85,x85),(1,x1),(3,x3),(86,x86)] H2 Q) (
 ak (zbg x3) fun v2 =>
 gQ v2 false (zab H 29 x1) fun v3 =>
 gW v2 false H (zaa true H 102 68 [v3]) fun v4 H1 =>
 gQ v2 false (zar 3 102 2048 v4) fun v5 =>
 ak (zal v2 v5) fun v6 =>
 gQ v6 false (zbj x8) fun v7 =>
 gQ v6 false (zar 3 106 8192 v7) fun v8 =>
 ak (zal v6 v8) fun v9 =>
 br (some v9) (
 Q (.v (.int .i64 8)) H1) (
 Q (.v (.int .i64 0)) H1))
theorem qc(x87 x8 x85 x1 x3 x86:AV)(H:ab)(Q:AV→ab→Prop)(h : ∀g,mZ g x87 x8 x85 x1 x3 x86 H Q):bT env Tryz.f41 0 ky [(87,x87),(8,x8),(85,x85),(1,x1),(3,x3),(86,x86)] H Q:=dx fun g=>aX (live:=mJ) (cut:=mL) (n:=500) (Eq.mp (by kernel_rfl) (h g))
noncomputable def vG:Code:=(Tryz.f42.body).getD .skip
def Cl:Nat→Option (List Nat):=fun i=>none
def CW:Nat→Bool:=fun i=>false
def vO(g:Nat→AV)(x0:AV)(H:ab)(Q:AV→ab→Prop):Prop :=
 aO (zac H 1 29 x0) fun v1 H1 =>
 aO (zaj H1 2 29) fun v2 H2 =>
 ak (zad 29 v1 0) fun v3 =>
 ak (zab H2 26 v3) fun v4 =>
 aO (zaa false H2 5 69 [v4]) fun v5 H3 =>
 ak (zad 29 v1 1) fun v6 =>
 ak (zab H3 27 v6) fun v7 =>
 aO (zaa false H3 8 70 [v7]) fun v8 H4 =>
 ak (zad 29 v1 0) fun v9 =>
 aO (zam H4 26 v9 v5) fun v10 H5 =>
 ak (zad 29 v1 1) fun v11 =>
 aO (zam H5 27 v11 v8) fun v12 H6 =>
 ak (zab H6 29 v1) fun v13 =>
 aO (zam H6 29 v2 v13) fun v14 H7 =>
 ak (zcn H7 v2 29) fun v15 =>
 Q v15 H7
theorem BD(x0:AV)(H:ab)(Q:AV→ab→Prop)(h : ∀g,vO g x0 H Q):bT env Tryz.f42 0 [.code vG] [(0,x0)] H Q:=⟨fun g=>aX (live:=Cl) (cut:=CW) (n:=500) (Eq.mp (by kernel_rfl) (h g))⟩
noncomputable def wY:Code:=(Tryz.f64.body).getD .skip
def DL:Nat→Option (List Nat):=fun i=>none
def DV:Nat→Bool:=fun i=>false
def xe(g:Nat→AV)(x0:AV)(H:ab)(Q:AV→ab→Prop):Prop :=
 aO (zaa true H 4 90 [x0,(.v (.bool false))]) fun v1 H1 =>
 ak (zbg v1) fun v2 =>
 Q v2 H1
theorem Dn(x0:AV)(H:ab)(Q:AV→ab→Prop)(h : ∀g,xe g x0 H Q):bT env Tryz.f64 0 [.code wY] [(0,x0)] H Q:=⟨fun g=>aX (live:=DL) (cut:=DV) (n:=500) (Eq.mp (by kernel_rfl) (h g))⟩
noncomputable def vF:Code:=(Tryz.f65.body).getD .skip
def Ck:Nat→Option (List Nat):=fun i=>none
def CV:Nat→Bool:=fun i=>false
def vN(g:Nat→AV)(x0 x1:AV)(H:ab)(Q:AV→ab→Prop):Prop :=
 ak (zan 3 5 0 x0) fun v1 =>
 gQ v1 true (zbj x0) fun v2 =>
 gQ v1 true (zbj x1) fun v3 =>
 gQ v1 true (aE env.P .leq 3 (Operand.tmp 8) (Operand.tmp 9) (some v2) (some v3)) fun v4 =>
 ak (zag v1 v4) fun v5 =>
 Q v5 H
theorem BC(x0 x1:AV)(H:ab)(Q:AV→ab→Prop)(h : ∀g,vN g x0 x1 H Q):bT env Tryz.f65 0 [.code vF] [(0,x0),(1,x1)] H Q:=⟨fun g=>aX (live:=Ck) (cut:=CV) (n:=500) (Eq.mp (by kernel_rfl) (h g))⟩
noncomputable def ur:Code:=(Tryz.f66.body).getD .skip
def A5:Nat→Option (List Nat):=fun i=>none
def Bc:Nat→Bool:=fun i=>false
def uC(g:Nat→AV)(x0:AV)(H:ab)(Q:AV→ab→Prop):Prop :=
 aO (zac H 1 52 x0) fun v1 H1 =>
 ak (zad 52 v1 0) fun v2 =>
 ak (zab H1 35 v2) fun v3 =>
 aO (zaa false H1 5 33 [v3]) fun v4 H2 =>
 ak (zai 23 5 0 v4) fun v5 =>
 gQ v5 true (zad 52 v1 1) fun v6 =>
 gQ v5 true (zab H2 4 v6) fun v7 =>
 gQ v5 true (zbj v7) fun v8 =>
 gQ v8 false (zad 52 v1 0) fun v9 =>
 gQ v8 false (zab H2 35 v9) fun v10 =>
 gW v8 false H2 (zaa false H2 13 91 []) fun v11 H3 =>
 gQ v8 false (zap 35 12 13 v10 v11) fun v12 =>
 gQ v5 true (zal v8 v12) fun v13 =>
 ak (zag v5 v13) fun v14 =>
 Q v14 H3
theorem AT(x0:AV)(H:ab)(Q:AV→ab→Prop)(h : ∀g,uC g x0 H Q):bT env Tryz.f66 0 [.code ur] [(0,x0)] H Q:=⟨fun g=>aX (live:=A5) (cut:=Bc) (n:=500) (Eq.mp (by kernel_rfl) (h g))⟩
noncomputable def oT:Code:=(Tryz.f68.body).getD .skip
noncomputable def ku:List Item:=(b7 3 400 [.code oT]).getD []
def sK:Nat→Option (List Nat):=fun i=>cond (Nat.beq i 3) (some [11,3,9,10]) (none)
def sT:Nat→Bool:=fun i=>false
def s9(g:Nat→AV)(x0:AV)(H:ab)(Q:AV→ab→Prop):Prop :=
 aO (zac H 1 29 x0) fun v1 H1 =>
 ak (zad 29 v1 2) fun v2 =>
 ak (zab H1 3 v2) fun v3 =>
 ak (zad 29 v1 1) fun v4 =>
 ak (zab H1 27 v4) fun v5 =>
 ak (zah H1 10 27 v5) fun v6 =>
  bT env Tryz.f68 0 ku [(11,(.v (.int .i64 0))),(3,v3),(9,v5),(10,v6)] H1 Q
theorem zE(x0:AV)(H:ab)(Q:AV→ab→Prop)(h : ∀g,s9 g x0 H Q):bT env Tryz.f68 0 [.code oT] [(0,x0)] H Q:=⟨fun g=>aX (live:=sK) (cut:=sT) (n:=500) (Eq.mp (by kernel_rfl) (h g))⟩
def mY(g:Nat→AV)(x11 x3 x9 x10:AV)(H:ab)(Q:AV→ab→Prop):Prop :=
 ak (zao 3 11 10 x11 x10) fun v1 =>
 br (some v1) (
 ak (zau H 27 x9 x11) fun v2 =>
 ak (zab H 76 v2) fun v3 =>
 aO (zaj H 5 76) fun v4 H1 =>
 aO (zam H1 76 v4 v3) fun v5 H2 =>
 ak (zad 76 v4 1) fun v6 =>
 ak (zab H2 3 v6) fun v7 =>
 ak (zad 76 v4 2) fun v8 =>
 ak (zab H2 3 v8) fun v9 =>
 ak (zbv 3 4 19 v9) fun v10 =>
 ak (zbd 3 17 20 v7 v10) fun v11 =>
 ak (zbd 3 15 21 x3 v11) fun v12 =>
 ak (zae 3 11 1 x11) fun v13 =>
  bT env Tryz.f68 0 ku [(11,v13),(3,v12),(9,x9),(10,x10)] H2 Q) (
 Q x3 H)
theorem qb(x11 x3 x9 x10:AV)(H:ab)(Q:AV→ab→Prop)(h : ∀g,mY g x11 x3 x9 x10 H Q):bT env Tryz.f68 0 ku [(11,x11),(3,x3),(9,x9),(10,x10)] H Q:=dx fun g=>aX (live:=sK) (cut:=sT) (n:=500) (Eq.mp (by kernel_rfl) (h g))
noncomputable def bK:Code:=(Tryz.f69.body).getD .skip
def fL:Nat→Option (List Nat):=fun i=>none
def fN:Nat→Bool:=fun i=>false
def bM(g:Nat→AV)(x0:AV)(H:ab)(Q:AV→ab→Prop):Prop :=
 ak (zbp 26 3 x0) fun v1 =>
 br (some v1) (
 Q (.v (.slice none 0 0)) H) (
 aO (zck H 5 26 0) fun v2 H1 =>
 aO (zat H1 7 26 26 v2 x0) fun v3 H2 =>
 Q v3 H2)
theorem ca(x0:AV)(H:ab)(Q:AV→ab→Prop)(h : ∀g,bM g x0 H Q):bT env Tryz.f69 0 [.code bK] [(0,x0)] H Q:=⟨fun g=>aX (live:=fL) (cut:=fN) (n:=500) (Eq.mp (by kernel_rfl) (h g))⟩
noncomputable def bJ:Code:=(Tryz.f70.body).getD .skip
def fK:Nat→Option (List Nat):=fun i=>none
def fM:Nat→Bool:=fun i=>false
def bL(g:Nat→AV)(x0:AV)(H:ab)(Q:AV→ab→Prop):Prop :=
 ak (zbp 27 3 x0) fun v1 =>
 br (some v1) (
 Q (.v (.slice none 0 0)) H) (
 aO (zck H 5 27 0) fun v2 H1 =>
 aO (zat H1 7 27 27 v2 x0) fun v3 H2 =>
 Q v3 H2)
theorem b8(x0:AV)(H:ab)(Q:AV→ab→Prop)(h : ∀g,bL g x0 H Q):bT env Tryz.f70 0 [.code bJ] [(0,x0)] H Q:=⟨fun g=>aX (live:=fK) (cut:=fM) (n:=500) (Eq.mp (by kernel_rfl) (h g))⟩
noncomputable def jB:Code:=(Tryz.f90.body).getD .skip
def oA:Nat→Option (List Nat):=fun i=>none
def oB:Nat→Bool:=fun i=>false
def jD(g:Nat→AV)(x0 x1:AV)(H:ab)(Q:AV→ab→Prop):Prop :=
 aO (zaa true H 7 110 [x0,x1]) fun v1 H1 =>
 ak (zan 3 7 0 v1) fun v2 =>
 Q v2 H1
theorem oy(x0 x1:AV)(H:ab)(Q:AV→ab→Prop)(h : ∀g,jD g x0 x1 H Q):bT env Tryz.f90 0 [.code jB] [(0,x0),(1,x1)] H Q:=⟨fun g=>aX (live:=oA) (cut:=oB) (n:=500) (Eq.mp (by kernel_rfl) (h g))⟩
noncomputable def uw:Code:=(Tryz.f92.body).getD .skip
def A7:Nat→Option (List Nat):=fun i=>none
def Be:Nat→Bool:=fun i=>false
def uE(g:Nat→AV)(x0 x1:AV)(H:ab)(Q:AV→ab→Prop):Prop :=
 aO (zac H 2 29 x0) fun v1 H1 =>
 aO (zac H1 3 35 x1) fun v2 H2 =>
 aO (zaj H2 4 76) fun v3 H3 =>
 ak (zab H3 29 v1) fun v4 =>
 ak (zab H3 35 v2) fun v5 =>
 aO (zaa true H3 11 111 [v4,v5]) fun v6 H4 =>
 ak (zaf 23 12 0 v6) fun v7 =>
 br (some v7) (
 ak (zch 76) fun v8 =>
 aO (zam H4 76 v3 v8) fun v9 H5 =>
 ak (zcn H5 v3 76) fun v10 =>
 Q (.tup [v10,v6]) H5) (
 ak (zad 29 v1 1) fun v8 =>
 ak (zab H4 27 v8) fun v9 =>
 ak (zab H4 35 v2) fun v10 =>
 aO (zaa true H4 20 112 [v9,v10,(.fn (.func 113) [] [])]) fun v11 H5 =>
 ak (zbb v11 0) fun v12 =>
 ak (zbb v11 1) fun v13 =>
 aO (zaj H5 7 76) fun v14 H6 =>
 aO (zam H6 76 v14 v12) fun v15 H7 =>
 ak (zbg v13) fun v16 =>
 br (some v16) (
 ak (zab H7 35 v2) fun v17 =>
 ak (zad 76 v14 0) fun v18 =>
 aO (zam H7 35 v18 v17) fun v19 H8 =>
 ak (zab H8 76 v14) fun v20 =>
 aO (zam H8 76 v3 v20) fun v21 H9 =>
 ak (zcn H9 v3 76) fun v22 =>
 Q (.tup [v22,(.v (.int .i64 0))]) H9) (
 ak (zab H7 76 v14) fun v17 =>
 aO (zam H7 76 v3 v17) fun v18 H8 =>
 ak (zcn H8 v3 76) fun v19 =>
 Q (.tup [v19,(.v (.int .i64 0))]) H8))
theorem AW(x0 x1:AV)(H:ab)(Q:AV→ab→Prop)(h : ∀g,uE g x0 x1 H Q):bT env Tryz.f92 0 [.code uw] [(0,x0),(1,x1)] H Q:=⟨fun g=>aX (live:=A7) (cut:=Be) (n:=500) (Eq.mp (by kernel_rfl) (h g))⟩
noncomputable def wZ:Code:=(Tryz.f93.body).getD .skip
def DM:Nat→Option (List Nat):=fun i=>none
def DW:Nat→Bool:=fun i=>false
def xf(g:Nat→AV)(x0 x1 x2:AV)(H:ab)(Q:AV→ab→Prop):Prop :=
 aO (zac H 3 29 x0) fun v1 H1 =>
 aO (zac H1 5 35 x2) fun v2 H2 =>
 ak (zab H2 29 v1) fun v3 =>
 ak (zab H2 35 v2) fun v4 =>
 aO (zaa true H2 12 111 [v3,v4]) fun v5 H3 =>
 ak (zaf 23 13 0 v5) fun v6 =>
 br (some v6) (
 Q (.tup [(.v (.bool false)),v5]) H3) (
 ak (zas 3 16 0 x1) fun v7 =>
 gQ v7 false (zbj x1) fun v8 =>
 gQ v7 false (zad 29 v1 0) fun v9 =>
 gQ v7 false (zab H3 26 v9) fun v10 =>
 gQ v7 false (zah H3 22 26 v10) fun v11 =>
 gQ v7 false (zcf 3 19 22 v8 v11) fun v12 =>
 ak (zal v7 v12) fun v13 =>
 br (some v13) (
 Q (.tup [(.v (.bool false)),(.v (.int .i64 0))]) H3) (
 ak (zad 29 v1 0) fun v14 =>
 ak (zab H3 26 v14) fun v15 =>
 ak (zau H3 26 v15 x1) fun v16 =>
 ak (zab H3 52 v16) fun v17 =>
 aO (zaj H3 9 52) fun v18 H4 =>
 aO (zam H4 52 v18 v17) fun v19 H5 =>
 ak (zad 52 v18 1) fun v20 =>
 ak (zab H5 4 v20) fun v21 =>
 gQ v21 true (zab H5 35 v2) fun v22 =>
 gQ v21 true (zad 52 v18 0) fun v23 =>
 gQ v21 true (zab H5 35 v23) fun v24 =>
 gW v21 true H5 (zaa true H5 36 20 [v22,v24]) fun v25 H6 =>
 ak (zag v21 v25) fun v26 =>
 Q (.tup [v26,(.v (.int .i64 0))]) H6))
theorem Dp(x0 x1 x2:AV)(H:ab)(Q:AV→ab→Prop)(h : ∀g,xf g x0 x1 x2 H Q):bT env Tryz.f93 0 [.code wZ] [(0,x0),(1,x1),(2,x2)] H Q:=⟨fun g=>aX (live:=DM) (cut:=DW) (n:=500) (Eq.mp (by kernel_rfl) (h g))⟩
noncomputable def gV:Code:=(Tryz.f110.body).getD .skip
noncomputable def eM:List Item:=(b7 2 400 [.code gV]).getD []
def kK:Nat→Option (List Nat):=fun i=>cond (Nat.beq i 2) (some [8,0,1,7]) (none)
def kM:Nat→Bool:=fun i=>false
def kS(g:Nat→AV)(x0 x1:AV)(H:ab)(Q:AV→ab→Prop):Prop :=
 ak (zah H 7 148 x0) fun v1 =>
  bT env Tryz.f110 0 eM [(8,(.v (.int .i64 0))),(0,x0),(1,x1),(7,v1)] H Q
theorem pC(x0 x1:AV)(H:ab)(Q:AV→ab→Prop)(h : ∀g,kS g x0 x1 H Q):bT env Tryz.f110 0 [.code gV] [(0,x0),(1,x1)] H Q:=⟨fun g=>aX (live:=kK) (cut:=kM) (n:=500) (Eq.mp (by kernel_rfl) (h g))⟩
def gj(g:Nat→AV)(x8 x0 x1 x7:AV)(H:ab)(Q:AV→ab→Prop):Prop :=
 ak (zao 3 8 7 x8 x7) fun v1 =>
 br (some v1) (
 ak (zau H 148 x0 x8) fun v2 =>
 ak (zab H 4 v2) fun v3 =>
 ak (zap 4 11 15 x1 v3) fun v4 =>
 br (some v4) (
 Q x8 H) (
 ak (zae 3 8 1 x8) fun v5 =>
  bT env Tryz.f110 0 eM [(8,v5),(0,x0),(1,x1),(7,x7)] H Q)) (
 Q (.v (.int .i64 (-1))) H)
theorem jF(x8 x0 x1 x7:AV)(H:ab)(Q:AV→ab→Prop)(h : ∀g,gj g x8 x0 x1 x7 H Q):bT env Tryz.f110 0 eM [(8,x8),(0,x0),(1,x1),(7,x7)] H Q:=dx fun g=>aX (live:=kK) (cut:=kM) (n:=500) (Eq.mp (by kernel_rfl) (h g))
noncomputable def uv:Code:=(Tryz.f111.body).getD .skip
def A6:Nat→Option (List Nat):=fun i=>none
def Bd:Nat→Bool:=fun i=>false
def uD(g:Nat→AV)(x0 x1:AV)(H:ab)(Q:AV→ab→Prop):Prop :=
 aO (zac H 2 29 x0) fun v1 H1 =>
 aO (zac H1 3 35 x1) fun v2 H2 =>
 ak (zab H2 29 v1) fun v3 =>
 aO (zaa false H2 6 41 [v3]) fun v4 H3 =>
 ak (zab H3 35 v2) fun v5 =>
 aO (zaa false H3 8 33 [v5]) fun v6 H4 =>
 ak (zci H4 9 23 23 v4 v6) fun v7 =>
 Q v7 H4
theorem AU(x0 x1:AV)(H:ab)(Q:AV→ab→Prop)(h : ∀g,uD g x0 x1 H Q):bT env Tryz.f111 0 [.code uv] [(0,x0),(1,x1)] H Q:=⟨fun g=>aX (live:=A6) (cut:=Bd) (n:=500) (Eq.mp (by kernel_rfl) (h g))⟩
noncomputable def dT:Code:=(Tryz.f112.body).getD .skip
def gw:Nat→Option (List Nat):=fun i=>none
def gx:Nat→Bool:=fun i=>false
def dV(g:Nat→AV)(x0 x1 x2:AV)(H:ab)(Q:AV→ab→Prop):Prop :=
 aO (zac H 4 35 x1) fun v1 H1 =>
 aO (zac H1 5 178 x2) fun v2 H2 =>
 aO (zaj H2 6 76) fun v3 H3 =>
 ak (sG (.func 129) (some []) (some [v2,v1])) fun v4 =>
 aO (zaa true H3 11 128 [x0,v4]) fun v5 H4 =>
 ak (zas 3 12 0 v5) fun v6 =>
 br (some v6) (
 ak (zab H4 76 v3) fun v7 =>
 aO (zam H4 76 v3 v7) fun v8 H5 =>
 ak (zcn H5 v3 76) fun v9 =>
 Q (.tup [v9,(.v (.bool false))]) H5) (
 ak (zau H4 27 x0 v5) fun v7 =>
 ak (zab H4 76 v7) fun v8 =>
 aO (zam H4 76 v3 v8) fun v9 H5 =>
 ak (zcn H5 v3 76) fun v10 =>
 Q (.tup [v10,(.v (.bool true))]) H5)
theorem gm(x0 x1 x2:AV)(H:ab)(Q:AV→ab→Prop)(h : ∀g,dV g x0 x1 x2 H Q):bT env Tryz.f112 0 [.code dT] [(0,x0),(1,x1),(2,x2)] H Q:=⟨fun g=>aX (live:=gw) (cut:=gx) (n:=500) (Eq.mp (by kernel_rfl) (h g))⟩
noncomputable def rC:Code:=(Tryz.f113.body).getD .skip
def yJ:Nat→Option (List Nat):=fun i=>none
def y8:Nat→Bool:=fun i=>false
def rK(g:Nat→AV)(x0:AV)(H:ab)(Q:AV→ab→Prop):Prop :=
 aO (zac H 1 76 x0) fun v1 H1 =>
 aO (zaj H1 2 35) fun v2 H2 =>
 ak (zad 76 v1 0) fun v3 =>
 ak (zab H2 35 v3) fun v4 =>
 aO (zam H2 35 v2 v4) fun v5 H3 =>
 ak (zcn H3 v2 35) fun v6 =>
 Q v6 H3
theorem xS(x0:AV)(H:ab)(Q:AV→ab→Prop)(h : ∀g,rK g x0 H Q):bT env Tryz.f113 0 [.code rC] [(0,x0)] H Q:=⟨fun g=>aX (live:=yJ) (cut:=y8) (n:=500) (Eq.mp (by kernel_rfl) (h g))⟩
noncomputable def bX:Code:=(Tryz.f128.body).getD .skip
noncomputable def bx:List Item:=(b7 2 400 [.code bX]).getD []
def cX:Nat→Option (List Nat):=fun i=>cond (Nat.beq i 2) (some [8,0,1,7]) (none)
def cY:Nat→Bool:=fun i=>false
def cZ(g:Nat→AV)(x0 x1:AV)(H:ab)(Q:AV→ab→Prop):Prop :=
 ak (zah H 7 27 x0) fun v1 =>
  bT env Tryz.f128 0 bx [(8,(.v (.int .i64 0))),(0,x0),(1,x1),(7,v1)] H Q
theorem fc(x0 x1:AV)(H:ab)(Q:AV→ab→Prop)(h : ∀g,cZ g x0 x1 H Q):bT env Tryz.f128 0 [.code bX] [(0,x0),(1,x1)] H Q:=⟨fun g=>aX (live:=cX) (cut:=cY) (n:=500) (Eq.mp (by kernel_rfl) (h g))⟩
def bS(g:Nat→AV)(x8 x0 x1 x7:AV)(H:ab)(Q:AV→ab→Prop):Prop :=
 ak (zao 3 8 7 x8 x7) fun v1 =>
 br (some v1) (
 ak (zau H 27 x0 x8) fun v2 =>
 ak (zab H 76 v2) fun v3 =>
 aO (zbe H 16 x1 v3) fun v4 H1 =>
 br (some v4) (
 Q x8 H1) (
 ak (zae 3 8 1 x8) fun v5 =>
  bT env Tryz.f128 0 bx [(8,v5),(0,x0),(1,x1),(7,x7)] H1 Q)) (
 Q (.v (.int .i64 (-1))) H)
theorem cR(x8 x0 x1 x7:AV)(H:ab)(Q:AV→ab→Prop)(h : ∀g,bS g x8 x0 x1 x7 H Q):bT env Tryz.f128 0 bx [(8,x8),(0,x0),(1,x1),(7,x7)] H Q:=dx fun g=>aX (live:=cX) (cut:=cY) (n:=500) (Eq.mp (by kernel_rfl) (h g))
noncomputable def dI:Code:=(Tryz.f129.body).getD .skip
def fT:Nat→Option (List Nat):=fun i=>none
def fU:Nat→Bool:=fun i=>false
def dJ(g:Nat→AV)(x0 x1 x2:AV)(H:ab)(Q:AV→ab→Prop):Prop :=
 aO (zac H 3 76 x0) fun v1 H1 =>
 ak (zab H1 178 x1) fun v2 =>
 ak (zab H1 76 v1) fun v3 =>
 aO (bo env false (bj env) (bV env 0) H1 (Ref.mk 0 7 (ab.gen H1 0 7) 0) (some v2) [v3]) fun v4 H2 =>
 ak (zab H2 35 x2) fun v5 =>
 ak (zap 35 7 8 v4 v5) fun v6 =>
 Q v6 H2
theorem fR(x0 x1 x2:AV)(H:ab)(Q:AV→ab→Prop)(h : ∀g,dJ g x0 x1 x2 H Q):bT env Tryz.f129 0 [.code dI] [(0,x0),(1,x1),(2,x2)] H Q:=⟨fun g=>aX (live:=fT) (cut:=fU) (n:=500) (Eq.mp (by kernel_rfl) (h g))⟩
end Go.Proofs.YtdbiffjdomokfaaGreat
