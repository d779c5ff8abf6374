/-
  What is to be shown of each function, computed from its code. No statement of a seat is proved here.
-/
import Derived.Test.YtdbiffjdomokfaaGreatAuTy
set_option linter.unusedVariables false
set_option maxRecDepth 1000000
namespace Go.Proofs.YtdbiffjdomokfaaGreat
open Go.Ab
noncomputable def mA:Code:=(Tryz.f25.body).getD .skip
def rH:Nat→Option (List Nat):=fun i=>none
def rN:Nat→Bool:=fun i=>false
def mD(g:Nat→AV)(x0:AV)(H:ab)(Q:AV→ab→Prop):Prop :=
 aO (zac H 1 29 x0) fun v1 H1 =>
 ak (zad 29 v1 0) fun v2 =>
 ak (zab H1 26 v2) fun v3 =>
 ak (zah H1 5 26 v3) fun v4 =>
 ak (zar 3 5 100 v4) fun v5 =>
 gQ v5 false (zad 29 v1 1) fun v6 =>
 gQ v5 false (zab H1 27 v6) fun v7 =>
 gQ v5 false (zah H1 10 27 v7) fun v8 =>
 gQ v5 false (zar 3 10 100 v8) fun v9 =>
 ak (zal v5 v9) fun v10 =>
 Q v10 H1
theorem rC(x0:AV)(H:ab)(Q:AV→ab→Prop)(h : ∀g,mD g x0 H Q):bP env Tryz.f25 0 [.code mA] [(0,x0)] H Q:=⟨fun g=>aV (live:=rH) (cut:=rN) (n:=500) (Eq.mp (by kernel_rfl) (h g))⟩
noncomputable def kJ:Code:=(Tryz.f41.body).getD .skip
noncomputable def kX:List Item:=(bY 3 400 [.code kJ]).getD []
noncomputable def kW:List Item:=(bY 8 400 [.code kJ]).getD []
noncomputable def ko:List Item:=(bY 14 400 [.code kJ]).getD []
def mF:Nat→Option (List Nat):=fun i=>cond (Nat.beq i 3) (some [27,3,25,1,26]) (cond (Nat.beq i 8) (some [40,1,3,38,39]) (cond (Nat.beq i 14) (some [87,8,85,1,3,86]) (none)))
def mH:Nat→Bool:=fun i=>false
def ud(g:Nat→AV)(x0:AV)(H:ab)(Q:AV→ab→Prop):Prop :=
 aO (zac H 1 29 x0) fun v1 H1 =>
 ak (zad 29 v1 0) fun v2 =>
 ak (zab H1 26 v2) fun v3 =>
 ak (zah H1 13 26 v3) fun v4 =>
 ak (zaz 3 13 8 v4) fun v5 =>
 ak (zad 29 v1 1) fun v6 =>
 ak (zab H1 27 v6) fun v7 =>
 ak (zah H1 17 27 v7) fun v8 =>
 ak (zaz 3 17 8 v8) fun v9 =>
 ak (zad 29 v1 2) fun v10 =>
 ak (zab H1 3 v10) fun v11 =>
 aO (zaa false H1 21 65 [v11,(.v (.int .i64 64))]) fun v12 H2 =>
 aO (eX env.P true false H2 (Ref.mk 0 22 (ab.gen H2 0 22) 0) 148 3 (some [(0,v5),(1,v9),(2,v12)])) fun v13 H3 =>
 aO (zaa false H3 23 64 [v13]) fun v14 H4 =>
 ak (zad 29 v1 0) fun v15 =>
 ak (zab H4 26 v15) fun v16 =>
 ak (zah H4 26 26 v16) fun v17 =>
  bP env Tryz.f41 0 kX [(27,(.v (.int .i64 0))),(3,v14),(25,v16),(1,v1),(26,v17)] H4 Q
theorem Av(x0:AV)(H:ab)(Q:AV→ab→Prop)(h : ∀g,ud g x0 H Q):bP env Tryz.f41 0 [.code kJ] [(0,x0)] H Q:=⟨fun g=>aV (live:=mF) (cut:=mH) (n:=500) (Eq.mp (by kernel_rfl) (h g))⟩
def nV(g:Nat→AV)(x27 x3 x25 x1 x26:AV)(H:ab)(Q:AV→ab→Prop):Prop :=
 ak (zan 3 27 26 x27 x26) fun v1 =>
 br (some v1) (
 ak (zau H 26 x25 x27) fun v2 =>
 ak (zab H 52 v2) fun v3 =>
 aO (zaj H 5 52) fun v4 H1 =>
 aO (zam H1 52 v4 v3) fun v5 H2 =>
 gQ x3 true (zab H2 52 v4) fun v6 =>
 gW x3 true H2 (zaa true H2 34 66 [v6]) fun v7 H3 =>
 ak (zag x3 v7) fun v8 =>
 ak (zae 3 27 1 x27) fun v9 =>
  bP env Tryz.f41 0 kX [(27,v9),(3,v8),(25,x25),(1,x1),(26,x26)] H3 Q) (
 ak (zad 29 x1 1) fun v2 =>
 ak (zab H 27 v2) fun v3 =>
 ak (zah H 39 27 v3) fun v4 =>
  bP env Tryz.f41 0 kW [(40,(.v (.int .i64 0))),(1,x1),(3,x3),(38,v3),(39,v4)] H Q)
theorem qG(x27 x3 x25 x1 x26:AV)(H:ab)(Q:AV→ab→Prop)(h : ∀g,nV g x27 x3 x25 x1 x26 H Q):bP env Tryz.f41 0 kX [(27,x27),(3,x3),(25,x25),(1,x1),(26,x26)] H Q:=cU fun g=>aV (live:=mF) (cut:=mH) (n:=500) (Eq.mp (by kernel_rfl) (h g))
def gK(g:Nat→AV)(x40 x1 x3 x38 x39:AV)(H:ab)(Q:AV→ab→Prop):Prop :=
 ak (zan 3 40 39 x40 x39) fun v1 =>
 br (some v1) (
 ak (zau H 27 x38 x40) fun v2 =>
 ak (zab H 76 v2) fun v3 =>
 aO (zaj H 7 76) fun v4 H1 =>
 aO (zam H1 76 v4 v3) fun v5 H2 =>
 gQ x3 true (zad 76 v4 0) fun v6 =>
 gQ x3 true (zab H2 35 v6) fun v7 =>
 gW x3 true H2 (zaa false H2 49 33 [v7]) fun v8 H3 =>
 gQ x3 true (zai 23 49 0 v8) fun v9 =>
 gQ x3 true (zad 76 v4 1) fun v10 =>
 gQ x3 true (zab H3 3 v10) fun v11 =>
 gW x3 true H3 (zaa false H3 53 65 [v11,(.v (.int .i64 64))]) fun v12 H4 =>
 gQ x3 true (zad 76 v4 2) fun v13 =>
 gQ x3 true (zab H4 3 v13) fun v14 =>
 gW x3 true H4 (zaa false H4 56 65 [v14,(.v (.int .i64 256))]) fun v15 H5 =>
 gQ x3 true (zad 76 v4 3) fun v16 =>
 gQ x3 true (zab H5 3 v16) fun v17 =>
 gW x3 true H5 (zaa false H5 59 65 [v17,(.v (.int .i64 4096))]) fun v18 H6 =>
 gQ x3 true (zbi x40) fun v19 =>
 gQ x3 true (zai 3 60 0 v19) fun v20 =>
 gQ x3 true (zbi v20) fun v21 =>
 gQ v21 false (zad 29 x1 1) fun v22 =>
 gQ v21 false (zab H6 27 v22) fun v23 =>
 gQ v21 false (zbi x40) fun v24 =>
 gQ v21 false (zax 3 65 1 v24) fun v25 =>
 gQ v21 false (aK env.P true (ab.get H6) (Ref.mk 0 67 (ab.gen H6 0 67) 0) .max #[3,3] [v25,(.v (.int .i64 0))]) fun v26 =>
 gQ v21 false (zau H6 27 v23 v26) fun v27 =>
 gQ v21 false (zad 76 v27 0) fun v28 =>
 gQ v21 false (zab H6 35 v28) fun v29 =>
 gQ v21 false (zad 76 v4 0) fun v30 =>
 gQ v21 false (zab H6 35 v30) fun v31 =>
 gW v21 false H6 (zaa false H6 73 67 [v29,v31]) fun v32 H7 =>
 gQ x3 true (zal v21 v32) fun v33 =>
 gW x3 true H7 (eX env.P true false H7 (Ref.mk 0 75 (ab.gen H7 0 75) 0) 148 5 (some [(0,v9),(1,v12),(2,v15),(3,v18),(4,v33)])) fun v34 H8 =>
 gW x3 true H8 (zaa false H8 76 64 [v34]) fun v35 H9 =>
 ak (zag x3 v35) fun v36 =>
 ak (zae 3 40 1 x40) fun v37 =>
  bP env Tryz.f41 0 kW [(40,v37),(1,x1),(3,v36),(38,x38),(39,x39)] H9 Q) (
 ak (zad 29 x1 1) fun v2 =>
 ak (zab H 27 v2) fun v3 =>
 ak (zad 29 x1 1) fun v4 =>
 ak (zab H 27 v4) fun v5 =>
 ak (zah H 83 27 v5) fun v6 =>
 ak (aK env.P false (ab.get H) (Ref.mk 0 84 (ab.gen H 0 84) 0) .min #[3,3] [v6,(.v (.int .i64 8))]) fun v7 =>
 ak (zbh H 27 v3 v7) fun v8 =>
 ak (zah H 86 27 v8) fun v9 =>
  bP env Tryz.f41 0 ko [(87,(.v (.int .i64 0))),(8,(.v (.int .i64 0))),(85,v8),(1,x1),(3,x3),(86,v9)] H Q)
theorem qF(x40 x1 x3 x38 x39:AV)(H:ab)(Q:AV→ab→Prop)(h : ∀g,gK g x40 x1 x3 x38 x39 H Q):bP env Tryz.f41 0 kW [(40,x40),(1,x1),(3,x3),(38,x38),(39,x39)] H Q:=cU fun g=>aV (live:=mF) (cut:=mH) (n:=500) (Eq.mp (by kernel_rfl) (h g))
def mU(g:Nat→AV)(x87 x8 x85 x1 x3 x86:AV)(H:ab)(Q:AV→ab→Prop):Prop :=
 ak (zan 3 87 86 x87 x86) fun v1 =>
 br (some v1) (
 ak (zau H 27 x85 x87) fun v2 =>
 ak (zab H 76 v2) fun v3 =>
 aO (zaj H 10 76) fun v4 H1 =>
 aO (zam H1 76 v4 v3) fun v5 H2 =>
 ak (zad 76 v4 3) fun v6 =>
 ak (zab H2 3 v6) fun v7 =>
 ak (aK env.P false (ab.get H2) (Ref.mk 0 94 (ab.gen H2 0 94) 0) .max #[3,3] [v7,(.v (.int .i64 0))]) fun v8 =>
 ak (aK env.P false (ab.get H2) (Ref.mk 0 95 (ab.gen H2 0 95) 0) .min #[3,3] [v8,(.v (.int .i64 4096))]) fun v9 =>
 ak (zba 3 91 95 x8 v9) fun v10 =>
 ak (zae 3 87 1 x87) fun v11 =>
  bP env Tryz.f41 0 ko [(87,v11),(8,v10),(85,x85),(1,x1),(3,x3),(86,x86)] H2 Q) (
 ak (zbg x3) fun v2 =>
 gQ v2 false (zab H 29 x1) fun v3 =>
 gW v2 false H (zaa true H 102 68 [v3]) fun v4 H1 =>
 gQ v2 false (zar 3 102 2048 v4) fun v5 =>
 ak (zal v2 v5) fun v6 =>
 gQ v6 false (zbi x8) fun v7 =>
 gQ v6 false (zar 3 106 8192 v7) fun v8 =>
 ak (zal v6 v8) fun v9 =>
 br (some v9) (
 Q (.v (.int .i64 8)) H1) (
 Q (.v (.int .i64 0)) H1))
theorem pQ(x87 x8 x85 x1 x3 x86:AV)(H:ab)(Q:AV→ab→Prop)(h : ∀g,mU g x87 x8 x85 x1 x3 x86 H Q):bP env Tryz.f41 0 ko [(87,x87),(8,x8),(85,x85),(1,x1),(3,x3),(86,x86)] H Q:=cU fun g=>aV (live:=mF) (cut:=mH) (n:=500) (Eq.mp (by kernel_rfl) (h g))
noncomputable def vd:Code:=(Tryz.f42.body).getD .skip
def BU:Nat→Option (List Nat):=fun i=>none
def Cq:Nat→Bool:=fun i=>false
def vn(g:Nat→AV)(x0:AV)(H:ab)(Q:AV→ab→Prop):Prop :=
 aO (zac H 1 29 x0) fun v1 H1 =>
 aO (zaj H1 2 29) fun v2 H2 =>
 ak (zad 29 v1 0) fun v3 =>
 ak (zab H2 26 v3) fun v4 =>
 aO (zaa false H2 5 69 [v4]) fun v5 H3 =>
 ak (zad 29 v1 1) fun v6 =>
 ak (zab H3 27 v6) fun v7 =>
 aO (zaa false H3 8 70 [v7]) fun v8 H4 =>
 ak (zad 29 v1 0) fun v9 =>
 aO (zam H4 26 v9 v5) fun v10 H5 =>
 ak (zad 29 v1 1) fun v11 =>
 aO (zam H5 27 v11 v8) fun v12 H6 =>
 ak (zab H6 29 v1) fun v13 =>
 aO (zam H6 29 v2 v13) fun v14 H7 =>
 ak (zcm H7 v2 29) fun v15 =>
 Q v15 H7
theorem Bc(x0:AV)(H:ab)(Q:AV→ab→Prop)(h : ∀g,vn g x0 H Q):bP env Tryz.f42 0 [.code vd] [(0,x0)] H Q:=⟨fun g=>aV (live:=BU) (cut:=Cq) (n:=500) (Eq.mp (by kernel_rfl) (h g))⟩
noncomputable def wy:Code:=(Tryz.f64.body).getD .skip
def Dd:Nat→Option (List Nat):=fun i=>none
def Dn:Nat→Bool:=fun i=>false
def wH(g:Nat→AV)(x0:AV)(H:ab)(Q:AV→ab→Prop):Prop :=
 aO (zaa true H 4 90 [x0,(.v (.bool false))]) fun v1 H1 =>
 ak (zbg v1) fun v2 =>
 Q v2 H1
theorem CS(x0:AV)(H:ab)(Q:AV→ab→Prop)(h : ∀g,wH g x0 H Q):bP env Tryz.f64 0 [.code wy] [(0,x0)] H Q:=⟨fun g=>aV (live:=Dd) (cut:=Dn) (n:=500) (Eq.mp (by kernel_rfl) (h g))⟩
noncomputable def vc:Code:=(Tryz.f65.body).getD .skip
def BT:Nat→Option (List Nat):=fun i=>none
def Cp:Nat→Bool:=fun i=>false
def vm(g:Nat→AV)(x0 x1:AV)(H:ab)(Q:AV→ab→Prop):Prop :=
 ak (zao 3 5 0 x0) fun v1 =>
 gQ v1 true (zbi x0) fun v2 =>
 gQ v1 true (zbi x1) fun v3 =>
 gQ v1 true (aE env.P .leq 3 (Operand.tmp 8) (Operand.tmp 9) (some v2) (some v3)) fun v4 =>
 ak (zag v1 v4) fun v5 =>
 Q v5 H
theorem Bb(x0 x1:AV)(H:ab)(Q:AV→ab→Prop)(h : ∀g,vm g x0 x1 H Q):bP env Tryz.f65 0 [.code vc] [(0,x0),(1,x1)] H Q:=⟨fun g=>aV (live:=BT) (cut:=Cp) (n:=500) (Eq.mp (by kernel_rfl) (h g))⟩
noncomputable def tT:Code:=(Tryz.f66.body).getD .skip
def AD:Nat→Option (List Nat):=fun i=>none
def AK:Nat→Bool:=fun i=>false
def tY(g:Nat→AV)(x0:AV)(H:ab)(Q:AV→ab→Prop):Prop :=
 aO (zac H 1 52 x0) fun v1 H1 =>
 ak (zad 52 v1 0) fun v2 =>
 ak (zab H1 35 v2) fun v3 =>
 aO (zaa false H1 5 33 [v3]) fun v4 H2 =>
 ak (zai 23 5 0 v4) fun v5 =>
 gQ v5 true (zad 52 v1 1) fun v6 =>
 gQ v5 true (zab H2 4 v6) fun v7 =>
 gQ v5 true (zbi v7) fun v8 =>
 gQ v8 false (zad 52 v1 0) fun v9 =>
 gQ v8 false (zab H2 35 v9) fun v10 =>
 gW v8 false H2 (zaa false H2 13 91 []) fun v11 H3 =>
 gQ v8 false (zap 35 12 13 v10 v11) fun v12 =>
 gQ v5 true (zal v8 v12) fun v13 =>
 ak (zag v5 v13) fun v14 =>
 Q v14 H3
theorem As(x0:AV)(H:ab)(Q:AV→ab→Prop)(h : ∀g,tY g x0 H Q):bP env Tryz.f66 0 [.code tT] [(0,x0)] H Q:=⟨fun g=>aV (live:=AD) (cut:=AK) (n:=500) (Eq.mp (by kernel_rfl) (h g))⟩
noncomputable def oH:Code:=(Tryz.f68.body).getD .skip
noncomputable def kn:List Item:=(bY 3 400 [.code oH]).getD []
def sj:Nat→Option (List Nat):=fun i=>cond (Nat.beq i 3) (some [11,3,9,10]) (none)
def sD:Nat→Bool:=fun i=>false
def sM(g:Nat→AV)(x0:AV)(H:ab)(Q:AV→ab→Prop):Prop :=
 aO (zac H 1 29 x0) fun v1 H1 =>
 ak (zad 29 v1 2) fun v2 =>
 ak (zab H1 3 v2) fun v3 =>
 ak (zad 29 v1 1) fun v4 =>
 ak (zab H1 27 v4) fun v5 =>
 ak (zah H1 10 27 v5) fun v6 =>
  bP env Tryz.f68 0 kn [(11,(.v (.int .i64 0))),(3,v3),(9,v5),(10,v6)] H1 Q
theorem ze(x0:AV)(H:ab)(Q:AV→ab→Prop)(h : ∀g,sM g x0 H Q):bP env Tryz.f68 0 [.code oH] [(0,x0)] H Q:=⟨fun g=>aV (live:=sj) (cut:=sD) (n:=500) (Eq.mp (by kernel_rfl) (h g))⟩
def mT(g:Nat→AV)(x11 x3 x9 x10:AV)(H:ab)(Q:AV→ab→Prop):Prop :=
 ak (zan 3 11 10 x11 x10) fun v1 =>
 br (some v1) (
 ak (zau H 27 x9 x11) fun v2 =>
 ak (zab H 76 v2) fun v3 =>
 aO (zaj H 5 76) fun v4 H1 =>
 aO (zam H1 76 v4 v3) fun v5 H2 =>
 ak (zad 76 v4 1) fun v6 =>
 ak (zab H2 3 v6) fun v7 =>
 ak (zad 76 v4 2) fun v8 =>
 ak (zab H2 3 v8) fun v9 =>
 ak (zbw 3 4 19 v9) fun v10 =>
 ak (zba 3 17 20 v7 v10) fun v11 =>
 ak (zba 3 15 21 x3 v11) fun v12 =>
 ak (zae 3 11 1 x11) fun v13 =>
  bP env Tryz.f68 0 kn [(11,v13),(3,v12),(9,x9),(10,x10)] H2 Q) (
 Q x3 H)
theorem pP(x11 x3 x9 x10:AV)(H:ab)(Q:AV→ab→Prop)(h : ∀g,mT g x11 x3 x9 x10 H Q):bP env Tryz.f68 0 kn [(11,x11),(3,x3),(9,x9),(10,x10)] H Q:=cU fun g=>aV (live:=sj) (cut:=sD) (n:=500) (Eq.mp (by kernel_rfl) (h g))
noncomputable def bJ:Code:=(Tryz.f69.body).getD .skip
def fG:Nat→Option (List Nat):=fun i=>none
def fI:Nat→Bool:=fun i=>false
def bL(g:Nat→AV)(x0:AV)(H:ab)(Q:AV→ab→Prop):Prop :=
 ak (zbp 26 3 x0) fun v1 =>
 br (some v1) (
 Q (.v (.slice none 0 0)) H) (
 aO (zck H 5 26 0) fun v2 H1 =>
 aO (zas H1 7 26 26 v2 x0) fun v3 H2 =>
 Q v3 H2)
theorem b7(x0:AV)(H:ab)(Q:AV→ab→Prop)(h : ∀g,bL g x0 H Q):bP env Tryz.f69 0 [.code bJ] [(0,x0)] H Q:=⟨fun g=>aV (live:=fG) (cut:=fI) (n:=500) (Eq.mp (by kernel_rfl) (h g))⟩
noncomputable def bI:Code:=(Tryz.f70.body).getD .skip
def fF:Nat→Option (List Nat):=fun i=>none
def fH:Nat→Bool:=fun i=>false
def bK(g:Nat→AV)(x0:AV)(H:ab)(Q:AV→ab→Prop):Prop :=
 ak (zbp 27 3 x0) fun v1 =>
 br (some v1) (
 Q (.v (.slice none 0 0)) H) (
 aO (zck H 5 27 0) fun v2 H1 =>
 aO (zas H1 7 27 27 v2 x0) fun v3 H2 =>
 Q v3 H2)
theorem bZ(x0:AV)(H:ab)(Q:AV→ab→Prop)(h : ∀g,bK g x0 H Q):bP env Tryz.f70 0 [.code bI] [(0,x0)] H Q:=⟨fun g=>aV (live:=fF) (cut:=fH) (n:=500) (Eq.mp (by kernel_rfl) (h g))⟩
noncomputable def jA:Code:=(Tryz.f90.body).getD .skip
def oc:Nat→Option (List Nat):=fun i=>none
def od:Nat→Bool:=fun i=>false
def jC(g:Nat→AV)(x0 x1:AV)(H:ab)(Q:AV→ab→Prop):Prop :=
 aO (zaa true H 7 110 [x0,x1]) fun v1 H1 =>
 ak (zao 3 7 0 v1) fun v2 =>
 Q v2 H1
theorem oa(x0 x1:AV)(H:ab)(Q:AV→ab→Prop)(h : ∀g,jC g x0 x1 H Q):bP env Tryz.f90 0 [.code jA] [(0,x0),(1,x1)] H Q:=⟨fun g=>aV (live:=oc) (cut:=od) (n:=500) (Eq.mp (by kernel_rfl) (h g))⟩
noncomputable def tV:Code:=(Tryz.f92.body).getD .skip
def AF:Nat→Option (List Nat):=fun i=>none
def AM:Nat→Bool:=fun i=>false
def uc(g:Nat→AV)(x0 x1:AV)(H:ab)(Q:AV→ab→Prop):Prop :=
 aO (zac H 2 29 x0) fun v1 H1 =>
 aO (zac H1 3 35 x1) fun v2 H2 =>
 aO (zaj H2 4 76) fun v3 H3 =>
 ak (zab H3 29 v1) fun v4 =>
 ak (zab H3 35 v2) fun v5 =>
 aO (zaa true H3 11 111 [v4,v5]) fun v6 H4 =>
 ak (zaf 23 12 0 v6) fun v7 =>
 br (some v7) (
 ak (zch 76) fun v8 =>
 aO (zam H4 76 v3 v8) fun v9 H5 =>
 ak (zcm H5 v3 76) fun v10 =>
 Q (.tup [v10,v6]) H5) (
 ak (zad 29 v1 1) fun v8 =>
 ak (zab H4 27 v8) fun v9 =>
 ak (zab H4 35 v2) fun v10 =>
 aO (zaa true H4 20 112 [v9,v10,(.fn (.func 113) [] [])]) fun v11 H5 =>
 ak (zbd v11 0) fun v12 =>
 ak (zbd v11 1) fun v13 =>
 aO (zaj H5 7 76) fun v14 H6 =>
 aO (zam H6 76 v14 v12) fun v15 H7 =>
 ak (zbg v13) fun v16 =>
 br (some v16) (
 ak (zab H7 35 v2) fun v17 =>
 ak (zad 76 v14 0) fun v18 =>
 aO (zam H7 35 v18 v17) fun v19 H8 =>
 ak (zab H8 76 v14) fun v20 =>
 aO (zam H8 76 v3 v20) fun v21 H9 =>
 ak (zcm H9 v3 76) fun v22 =>
 Q (.tup [v22,(.v (.int .i64 0))]) H9) (
 ak (zab H7 76 v14) fun v17 =>
 aO (zam H7 76 v3 v17) fun v18 H8 =>
 ak (zcm H8 v3 76) fun v19 =>
 Q (.tup [v19,(.v (.int .i64 0))]) H8))
theorem Au(x0 x1:AV)(H:ab)(Q:AV→ab→Prop)(h : ∀g,uc g x0 x1 H Q):bP env Tryz.f92 0 [.code tV] [(0,x0),(1,x1)] H Q:=⟨fun g=>aV (live:=AF) (cut:=AM) (n:=500) (Eq.mp (by kernel_rfl) (h g))⟩
noncomputable def wz:Code:=(Tryz.f93.body).getD .skip
def De:Nat→Option (List Nat):=fun i=>none
def Dp:Nat→Bool:=fun i=>false
def wI(g:Nat→AV)(x0 x1 x2:AV)(H:ab)(Q:AV→ab→Prop):Prop :=
 aO (zac H 3 29 x0) fun v1 H1 =>
 aO (zac H1 5 35 x2) fun v2 H2 =>
 ak (zab H2 29 v1) fun v3 =>
 ak (zab H2 35 v2) fun v4 =>
 aO (zaa true H2 12 111 [v3,v4]) fun v5 H3 =>
 ak (zaf 23 13 0 v5) fun v6 =>
 br (some v6) (
 Q (.tup [(.v (.bool false)),v5]) H3) (
 ak (zat 3 16 0 x1) fun v7 =>
 gQ v7 false (zbi x1) fun v8 =>
 gQ v7 false (zad 29 v1 0) fun v9 =>
 gQ v7 false (zab H3 26 v9) fun v10 =>
 gQ v7 false (zah H3 22 26 v10) fun v11 =>
 gQ v7 false (zbq 3 19 22 v8 v11) fun v12 =>
 ak (zal v7 v12) fun v13 =>
 br (some v13) (
 Q (.tup [(.v (.bool false)),(.v (.int .i64 0))]) H3) (
 ak (zad 29 v1 0) fun v14 =>
 ak (zab H3 26 v14) fun v15 =>
 ak (zau H3 26 v15 x1) fun v16 =>
 ak (zab H3 52 v16) fun v17 =>
 aO (zaj H3 9 52) fun v18 H4 =>
 aO (zam H4 52 v18 v17) fun v19 H5 =>
 ak (zad 52 v18 1) fun v20 =>
 ak (zab H5 4 v20) fun v21 =>
 gQ v21 true (zab H5 35 v2) fun v22 =>
 gQ v21 true (zad 52 v18 0) fun v23 =>
 gQ v21 true (zab H5 35 v23) fun v24 =>
 gW v21 true H5 (zaa true H5 36 20 [v22,v24]) fun v25 H6 =>
 ak (zag v21 v25) fun v26 =>
 Q (.tup [v26,(.v (.int .i64 0))]) H6))
theorem CT(x0 x1 x2:AV)(H:ab)(Q:AV→ab→Prop)(h : ∀g,wI g x0 x1 x2 H Q):bP env Tryz.f93 0 [.code wz] [(0,x0),(1,x1),(2,x2)] H Q:=⟨fun g=>aV (live:=De) (cut:=Dp) (n:=500) (Eq.mp (by kernel_rfl) (h g))⟩
noncomputable def gR:Code:=(Tryz.f110.body).getD .skip
noncomputable def eJ:List Item:=(bY 2 400 [.code gR]).getD []
def kF:Nat→Option (List Nat):=fun i=>cond (Nat.beq i 2) (some [8,0,1,7]) (none)
def kH:Nat→Bool:=fun i=>false
def kM(g:Nat→AV)(x0 x1:AV)(H:ab)(Q:AV→ab→Prop):Prop :=
 ak (zah H 7 148 x0) fun v1 =>
  bP env Tryz.f110 0 eJ [(8,(.v (.int .i64 0))),(0,x0),(1,x1),(7,v1)] H Q
theorem pg(x0 x1:AV)(H:ab)(Q:AV→ab→Prop)(h : ∀g,kM g x0 x1 H Q):bP env Tryz.f110 0 [.code gR] [(0,x0),(1,x1)] H Q:=⟨fun g=>aV (live:=kF) (cut:=kH) (n:=500) (Eq.mp (by kernel_rfl) (h g))⟩
def gj(g:Nat→AV)(x8 x0 x1 x7:AV)(H:ab)(Q:AV→ab→Prop):Prop :=
 ak (zan 3 8 7 x8 x7) fun v1 =>
 br (some v1) (
 ak (zau H 148 x0 x8) fun v2 =>
 ak (zab H 4 v2) fun v3 =>
 ak (zap 4 11 15 x1 v3) fun v4 =>
 br (some v4) (
 Q x8 H) (
 ak (zae 3 8 1 x8) fun v5 =>
  bP env Tryz.f110 0 eJ [(8,v5),(0,x0),(1,x1),(7,x7)] H Q)) (
 Q (.v (.int .i64 (-1))) H)
theorem jE(x8 x0 x1 x7:AV)(H:ab)(Q:AV→ab→Prop)(h : ∀g,gj g x8 x0 x1 x7 H Q):bP env Tryz.f110 0 eJ [(8,x8),(0,x0),(1,x1),(7,x7)] H Q:=cU fun g=>aV (live:=kF) (cut:=kH) (n:=500) (Eq.mp (by kernel_rfl) (h g))
noncomputable def tU:Code:=(Tryz.f111.body).getD .skip
def AE:Nat→Option (List Nat):=fun i=>none
def AL:Nat→Bool:=fun i=>false
def tZ(g:Nat→AV)(x0 x1:AV)(H:ab)(Q:AV→ab→Prop):Prop :=
 aO (zac H 2 29 x0) fun v1 H1 =>
 aO (zac H1 3 35 x1) fun v2 H2 =>
 ak (zab H2 29 v1) fun v3 =>
 aO (zaa false H2 6 41 [v3]) fun v4 H3 =>
 ak (zab H3 35 v2) fun v5 =>
 aO (zaa false H3 8 33 [v5]) fun v6 H4 =>
 ak (zci H4 9 23 23 v4 v6) fun v7 =>
 Q v7 H4
theorem At(x0 x1:AV)(H:ab)(Q:AV→ab→Prop)(h : ∀g,tZ g x0 x1 H Q):bP env Tryz.f111 0 [.code tU] [(0,x0),(1,x1)] H Q:=⟨fun g=>aV (live:=AE) (cut:=AL) (n:=500) (Eq.mp (by kernel_rfl) (h g))⟩
noncomputable def dR:Code:=(Tryz.f112.body).getD .skip
def gw:Nat→Option (List Nat):=fun i=>none
def gx:Nat→Bool:=fun i=>false
def dT(g:Nat→AV)(x0 x1 x2:AV)(H:ab)(Q:AV→ab→Prop):Prop :=
 aO (zac H 4 35 x1) fun v1 H1 =>
 aO (zac H1 5 178 x2) fun v2 H2 =>
 aO (zaj H2 6 76) fun v3 H3 =>
 ak (sf (.func 129) (some []) (some [v2,v1])) fun v4 =>
 aO (zaa true H3 11 128 [x0,v4]) fun v5 H4 =>
 ak (zat 3 12 0 v5) fun v6 =>
 br (some v6) (
 ak (zab H4 76 v3) fun v7 =>
 aO (zam H4 76 v3 v7) fun v8 H5 =>
 ak (zcm H5 v3 76) fun v9 =>
 Q (.tup [v9,(.v (.bool false))]) H5) (
 ak (zau H4 27 x0 v5) fun v7 =>
 ak (zab H4 76 v7) fun v8 =>
 aO (zam H4 76 v3 v8) fun v9 H5 =>
 ak (zcm H5 v3 76) fun v10 =>
 Q (.tup [v10,(.v (.bool true))]) H5)
theorem gm(x0 x1 x2:AV)(H:ab)(Q:AV→ab→Prop)(h : ∀g,dT g x0 x1 x2 H Q):bP env Tryz.f112 0 [.code dR] [(0,x0),(1,x1),(2,x2)] H Q:=⟨fun g=>aV (live:=gw) (cut:=gx) (n:=500) (Eq.mp (by kernel_rfl) (h g))⟩
noncomputable def qX:Code:=(Tryz.f113.body).getD .skip
def yd:Nat→Option (List Nat):=fun i=>none
def yH:Nat→Bool:=fun i=>false
def rf(g:Nat→AV)(x0:AV)(H:ab)(Q:AV→ab→Prop):Prop :=
 aO (zac H 1 76 x0) fun v1 H1 =>
 aO (zaj H1 2 35) fun v2 H2 =>
 ak (zad 76 v1 0) fun v3 =>
 ak (zab H2 35 v3) fun v4 =>
 aO (zam H2 35 v2 v4) fun v5 H3 =>
 ak (zcm H3 v2 35) fun v6 =>
 Q v6 H3
theorem xn(x0:AV)(H:ab)(Q:AV→ab→Prop)(h : ∀g,rf g x0 H Q):bP env Tryz.f113 0 [.code qX] [(0,x0)] H Q:=⟨fun g=>aV (live:=yd) (cut:=yH) (n:=500) (Eq.mp (by kernel_rfl) (h g))⟩
noncomputable def bW:Code:=(Tryz.f128.body).getD .skip
noncomputable def bu:List Item:=(bY 2 400 [.code bW]).getD []
def cT:Nat→Option (List Nat):=fun i=>cond (Nat.beq i 2) (some [8,0,1,7]) (none)
def cV:Nat→Bool:=fun i=>false
def cX(g:Nat→AV)(x0 x1:AV)(H:ab)(Q:AV→ab→Prop):Prop :=
 ak (zah H 7 27 x0) fun v1 =>
  bP env Tryz.f128 0 bu [(8,(.v (.int .i64 0))),(0,x0),(1,x1),(7,v1)] H Q
theorem fb(x0 x1:AV)(H:ab)(Q:AV→ab→Prop)(h : ∀g,cX g x0 x1 H Q):bP env Tryz.f128 0 [.code bW] [(0,x0),(1,x1)] H Q:=⟨fun g=>aV (live:=cT) (cut:=cV) (n:=500) (Eq.mp (by kernel_rfl) (h g))⟩
def bS(g:Nat→AV)(x8 x0 x1 x7:AV)(H:ab)(Q:AV→ab→Prop):Prop :=
 ak (zan 3 8 7 x8 x7) fun v1 =>
 br (some v1) (
 ak (zau H 27 x0 x8) fun v2 =>
 ak (zab H 76 v2) fun v3 =>
 aO (zbe H 16 x1 v3) fun v4 H1 =>
 br (some v4) (
 Q x8 H1) (
 ak (zae 3 8 1 x8) fun v5 =>
  bP env Tryz.f128 0 bu [(8,v5),(0,x0),(1,x1),(7,x7)] H1 Q)) (
 Q (.v (.int .i64 (-1))) H)
theorem cM(x8 x0 x1 x7:AV)(H:ab)(Q:AV→ab→Prop)(h : ∀g,bS g x8 x0 x1 x7 H Q):bP env Tryz.f128 0 bu [(8,x8),(0,x0),(1,x1),(7,x7)] H Q:=cU fun g=>aV (live:=cT) (cut:=cV) (n:=500) (Eq.mp (by kernel_rfl) (h g))
noncomputable def dF:Code:=(Tryz.f129.body).getD .skip
def fP:Nat→Option (List Nat):=fun i=>none
def fR:Nat→Bool:=fun i=>false
def dG(g:Nat→AV)(x0 x1 x2:AV)(H:ab)(Q:AV→ab→Prop):Prop :=
 aO (zac H 3 76 x0) fun v1 H1 =>
 ak (zab H1 178 x1) fun v2 =>
 ak (zab H1 76 v1) fun v3 =>
 aO (bn env false (bj env) (bU env 0) H1 (Ref.mk 0 7 (ab.gen H1 0 7) 0) (some v2) [v3]) fun v4 H2 =>
 ak (zab H2 35 x2) fun v5 =>
 ak (zap 35 7 8 v4 v5) fun v6 =>
 Q v6 H2
theorem fN(x0 x1 x2:AV)(H:ab)(Q:AV→ab→Prop)(h : ∀g,dG g x0 x1 x2 H Q):bP env Tryz.f129 0 [.code dF] [(0,x0),(1,x1),(2,x2)] H Q:=⟨fun g=>aV (live:=fP) (cut:=fR) (n:=500) (Eq.mp (by kernel_rfl) (h g))⟩
end Go.Proofs.YtdbiffjdomokfaaGreat
